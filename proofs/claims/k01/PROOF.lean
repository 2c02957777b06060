import PyProof.Rows.All
import Wide.All
import OpenK.AllK
import Wide.FinOn
import HandS.ForMost
import HandS.Wide
import HandS.Flow
import HandS.Conv
import HandS.Zip
import HandS.IsInst
import HandS.Exc
import HandS.TryOnly
import HandS.ExcOwn
import HandS.WordsExc
import HandS.Style
import HandS.Lambda
import HandS.EndTab
import HandS.ExcIs
import KE.DataFind
import HandS.AnyAll
import HandS.RaiseMore
import KE.KNestM
import HandS.EndBits
import PySem.Challenge.RW_primepapers_k01_powers_of_rests
set_option Elab.async false
set_option linter.all false
section
set_option maxRecDepth 100000
namespace My
open PySem L2
/-! ### the error classes of the text -/
structure EC (K : PySem.W.Frag) (mg : Str → Option Value) (x : Str) (C : Addr) : Prop where
  g : mg x = some (.ref C)
  k : PySem.W.keepIn K (.ref C) = true
  q : PySem.W.excIn K C [.type "ValueError", .type "Exception", .type "BaseException", .type "object"] "ValueError.__new__" = true
  b : PySem.W.subIn K (.ref C) (.type "BaseException") = some true
  t : PySem.W.typeIn K (.ref C) = some (.type "type")
/-! ### kinds of values -/
inductive Ty (K : PySem.W.Frag) (H : Hp) : V → String → Prop where
  | non : Ty K H .non "NoneType"
  | bl (b : Bool) : Ty K H (.bl b) "bool"
  | int (i : Int) : Ty K H (.int i) "int"
  | str (x : Str) : Ty K H (.str x) "str"
  | lst {a : Addr} {xs : List V} (h : H a = some (.lst xs)) : Ty K H (.ref a) "list"
  | tup {a : Addr} {xs : List V} (h : H a = some (.tup xs)) : Ty K H (.ref a) "tuple"
  | dK {a : Addr} {kvs : List (Key × V)} (h : H a = some (.dK kvs)) : Ty K H (.ref a) "dict"
theorem Ty.x {K : PySem.W.Frag} {H : Hp} {v : V} {t : String} (h : Ty K H v t) : TyX K H v (.type t) := by
  cases h with
  | non => exact .base .non
  | bl b => exact .base (.bl b)
  | int i => exact .base (.int i)
  | str x => exact .base (.str x)
  | lst h => exact .base (.lst h)
  | tup h => exact .base (.tup h)
  | dK h => exact .base (.dK h)
theorem Ty.ext {K : PySem.W.Frag} {H H' : Hp} {v : V} {t : String} (h : Ty K H v t) (s : Same H H') : Ty K H' v t := by
  cases h with
  | non => exact .non
  | bl b => exact .bl b
  | int i => exact .int i
  | str x => exact .str x
  | lst h => exact .lst (s _ _ h)
  | tup h => exact .tup (s _ _ h)
  | dK h => exact .dK (s _ _ h)
def isB : V → Bool
  | .bl _ => true
  | _ => false
def isS : V → Bool
  | .str _ => true
  | _ => false
def isI : V → Bool
  | .int _ => true
  | _ => false
def inR (v : V) (lo hi : Int) : Bool := match v with
  | .int i => decide (lo ≤ i) && decide (i ≤ hi)
  | _ => false
theorem Ty.kInt {K : PySem.W.Frag} {H : Hp} {v : V} {t : String} (h : Ty K H v t) : PySem.W.kitOne K (.type t) (.type "int") = some (isI v || isB v) := by
  cases h <;> first | exact kit_ty (r := true) (by decide +kernel) | exact kit_ty (r := false) (by decide +kernel)
theorem Ty.kBool {K : PySem.W.Frag} {H : Hp} {v : V} {t : String} (h : Ty K H v t) : PySem.W.kitOne K (.type t) (.type "bool") = some (isB v) := by
  cases h <;> first | exact kit_ty (r := true) (by decide +kernel) | exact kit_ty (r := false) (by decide +kernel)
theorem Ty.kStr {K : PySem.W.Frag} {H : Hp} {v : V} {t : String} (h : Ty K H v t) : PySem.W.kitOne K (.type t) (.type "str") = some (isS v) := by
  cases h <;> first | exact kit_ty (r := true) (by decide +kernel) | exact kit_ty (r := false) (by decide +kernel)
theorem Ty.kTup {K : PySem.W.Frag} {H : Hp} {v : V} {t : String} (h : Ty K H v t) : PySem.W.kitOne K (.type t) (.type "tuple") = some (t == "tuple") := by
  cases h <;> first | exact kit_ty (r := true) (by decide +kernel) | exact kit_ty (r := false) (by decide +kernel)
theorem Ty.kLst {K : PySem.W.Frag} {H : Hp} {v : V} {t : String} (h : Ty K H v t) : PySem.W.kitOne K (.type t) (.type "list") = some (t == "list") := by
  cases h <;> first | exact kit_ty (r := true) (by decide +kernel) | exact kit_ty (r := false) (by decide +kernel)
/-- isinstance(v, int) and its like -/
theorem isi {K : PySem.W.Frag} {H : Hp} {v : V} {t c : String} {b : Bool} {Q : VK} (h : Ty K H v t) (k : PySem.W.kitOne K (.type t) (.type c) = some b) (q : Q (.bl b) H) : rIsi K [v, .ty c] H Q :=
  ⟨v, .ty c, .type t, .type c, b, rfl, .ty c, h.x, k, q⟩
/-! ### heaps -/
theorem same_new {H : Hp} {p : Addr} (h : H p = none) (o : HO) : Same H (upd H p o) := fun b u q => by rw [upd_ne (ne_of_none q h)]; exact q
theorem inR_int {v : V} {lo hi : Int} (h : inR v lo hi = true) : ∃ i, v = .int i ∧ lo ≤ i ∧ i ≤ hi := by
  cases v with
  | int i =>
    have h' : (decide (lo ≤ i) && decide (i ≤ hi)) = true := h
    rw [Bool.and_eq_true] at h'
    exact ⟨i, rfl, of_decide_eq_true h'.1, of_decide_eq_true h'.2⟩
  | _ => cases h
theorem inR_ok {i lo hi : Int} (h1 : lo ≤ i) (h2 : i ≤ hi) : inR (.int i) lo hi = true := by
  show (decide (lo ≤ i) && decide (i ≤ hi)) = true
  rw [decide_eq_true h1, decide_eq_true h2]; rfl
/-- all but lists stay -/
def NL (H H' : Hp) : Prop := ∀ b o, H b = some o → (∀ ys, o ≠ .lst ys) → H' b = some o
theorem NL.refl (H : Hp) : NL H H := fun _ _ e _ => e
theorem NL.trans {H H1 H2 : Hp} (h : NL H H1) (h' : NL H1 H2) : NL H H2 := fun b o e n => h' b o (h b o e n) n
theorem NL.of {H H' : Hp} (s : Same H H') : NL H H' := fun b o e _ => s b o e
theorem NL.lst {H : Hp} {p : Addr} {xs : List V} (h : H p = some (.lst xs)) (o : HO) : NL H (upd H p o) := fun b u e n => by
  rw [upd_ne (fun z => n xs (by rw [z] at e; exact Option.some.inj (e.symm.trans h)))]; exact e
/-! ### tests -/
theorem decB {c : Prop} [Decidable c] {A B : Prop} (h1 : c → A) (h2 : ¬ c → B) : if decide c = true then A else B := by
  by_cases h : c
  · rw [decide_eq_true h, if_pos rfl]; exact h1 h
  · rw [decide_eq_false h, if_neg Bool.false_ne_true]; exact h2 h
theorem iteB {b : Bool} {A B : Prop} (h1 : b = true → A) (h2 : b = false → B) : if b = true then A else B := by
  cases b with
  | true => exact iteT (h1 rfl)
  | false => exact iteF (h2 rfl)
theorem sz {n : Nat} (h : n ≤ 1000000) : n ≤ sizeLine := Nat.le_trans h (by decide)
theorem szl {n : Nat} (h : n < 1000000) : n < sizeLine := Nat.lt_of_lt_of_le h (by decide)
theorem pow_lt {x : Int} {m : Nat} (k : Nat) (h0 : -(2 ^ k : Int) < x) (h1 : x < (2 ^ k : Int)) : x.natAbs < 2 ^ k := by
  have e : ((2 ^ k : Nat) : Int) = (2 ^ k : Int) := by simp
  omega
theorem mulOk {i j : Int} (hi : -(2 ^ 250 : Int) < i ∧ i < 2 ^ 250) (hj : -(2 ^ 250 : Int) < j ∧ j < 2 ^ 250) : CMulW i j :=
  wide_mul (a := 250) (b := 250) (pow_lt (m := 0) 250 hi.1 hi.2) (pow_lt (m := 0) 250 hj.1 hj.2) (by decide) (by decide) (by decide)
theorem divOk {i j : Int} (h : 0 < j) (hj : j < 2 ^ 250) : CDivW i j := wide_div (b := 250) h (pow_lt (m := 0) 250 (by omega) hj) (by decide) (by decide)
/-! ### what a draw leaves: the state of two ints at a, all else as it was -/
def StAt (H : Hp) (a : Addr) : Prop := ∃ x y : Int, H a = some (.lst [.int x, .int y]) ∧ 0 ≤ x ∧ 0 ≤ y ∧ y < 2 ^ 40
def Draw (a : Addr) (H H' : Hp) : Prop := StAt H' a ∧ ∀ b o, H b = some o → b ≠ a → H' b = some o
theorem Draw.trans {a : Addr} {H H1 H2 : Hp} (h : Draw a H H1) (h' : Draw a H1 H2) : Draw a H H2 := ⟨h'.1, fun b o e n => h'.2 b o (h.2 b o e n) n⟩
theorem Draw.same {a : Addr} {H H1 H2 : Hp} (h : Draw a H H1) (s : Same H1 H2) : Draw a H H2 := by
  obtain ⟨⟨x, y, e, z⟩, k⟩ := h
  exact ⟨⟨x, y, s _ _ e, z⟩, fun b o e n => s _ _ (k b o e n)⟩
theorem StAt.draw {a : Addr} {H H1 : Hp} (h : StAt H a) (s : Same H H1) : Draw a H H1 := by
  obtain ⟨x, y, e, z⟩ := h
  exact ⟨⟨x, y, s _ _ e, z⟩, fun b o e n => s _ _ e⟩
theorem Draw.refl {a : Addr} {H : Hp} (h : StAt H a) : Draw a H H := h.draw (Same.refl H)
theorem StAt.ext {a : Addr} {H H1 : Hp} (h : StAt H a) (s : Same H H1) : StAt H1 a := (h.draw s).1
/-- an object new since H is not the state's -/
theorem Draw.keep {a b : Addr} {H H' : Hp} {o : HO} (h : Draw a H H') (e : H b = some o) (n : b ≠ a) : H' b = some o := h.2 b o e n
theorem NL.draw {a : Addr} {H H' : Hp} (h : Draw a H H') (s : StAt H a) : NL H H' := fun b o e n => h.2 b o e fun z => by
  obtain ⟨x, y, q, _⟩ := s
  exact n _ (by rw [z] at e; exact Option.some.inj (e.symm.trans q))
theorem cxK {CX : CXT} {P : Program} {w : World} {K : PySem.W.Frag} {mg : Str → Option Value} {base : Heap} {N : List Str} {qual : Str} {scope : Scope} {f : Addr} {cd : Value} {A : Around} {outer : List Env} {s : Shared} {H : Hp} {E : XK} : (cxOf CX P w K mg base N qual scope f cd A outer s H E).K = K := rfl
theorem tyL {K : PySem.W.Frag} {H : Hp} {p : Addr} {xs : List V} (h : H p = some (.lst xs)) : tyV K "list" (.ref p) H := Or.inl ⟨rfl, _, Or.inl (Or.inl h)⟩
theorem pe_gi {X : Cx} {x : Str} {pos : Pos} {i : Int} {t : Tok} (hg : Gl X x) (hm : X.mg x = some (.int i t)) (hdb : (x == ("__debug__" : Str)) = false := by decide) : PE X (.Name x pos) (tC (.int i)) :=
  pe_glob hg hm (show RelV (V.int i) (Value.int i t) from ⟨t, rfl⟩) hdb
theorem ixL {K : PySem.W.Frag} {H : Hp} {a : Addr} {xs : List V} {i : Int} {v : V} {Q : VK} (h : SqL K H a xs) (e : atI xs i = some v) (q : Q v H) : rIxL K (.ref a) (.int i) H Q := ⟨a, xs, i, v, rfl, rfl, h, e, q⟩
theorem ixT {K : PySem.W.Frag} {H : Hp} {a : Addr} {xs : List V} {i : Int} {v : V} {Q : VK} (h : SqT K H a xs) (e : atI xs i = some v) (q : Q v H) : rIxT K (.ref a) (.int i) H Q := ⟨a, xs, i, v, rfl, rfl, h, e, q⟩
theorem ix0 {K : PySem.W.Frag} {H : Hp} {a : Addr} {v : V} {r : List V} {Q : VK} (h : H a = some (.lst (v :: r))) (q : Q v H) : rIxL K (.ref a) (.int 0) H Q := ixL (SqL.of h) (atI_nat (j := 0) rfl) q
theorem ix1 {K : PySem.W.Frag} {H : Hp} {a : Addr} {u v : V} {r : List V} {Q : VK} (h : H a = some (.lst (u :: v :: r))) (q : Q v H) : rIxL K (.ref a) (.int 1) H Q := ixL (SqL.of h) (atI_nat (j := 1) rfl) q
theorem st0 {H : Hp} {a : Addr} {u v x : V} {Q : Hp → Prop} (h : H a = some (.lst [u, v])) (q : Q (upd H a (.lst [x, v]))) : rSetL (.ref a) (.int 0) x H Q := ⟨a, [u, v], 0, 0, rfl, rfl, h, rfl, q⟩
theorem st1 {H : Hp} {a : Addr} {u v x : V} {Q : Hp → Prop} (h : H a = some (.lst [u, v])) (q : Q (upd H a (.lst [u, x]))) : rSetL (.ref a) (.int 1) x H Q := ⟨a, [u, v], 1, 1, rfl, rfl, h, rfl, q⟩
theorem cp10 {j : Int} : CPow 10 j = (0 ≤ j ∧ j ≤ 1000000) := by
  unfold CPow
  exact propext ⟨fun h => ⟨h.1, h.2.1⟩, fun h => ⟨h.1, h.2, by decide⟩⟩
/-- an item of a written list, at a drawn place -/
theorem ixD {K : PySem.W.Frag} {H : Hp} {a : Addr} {xs : List V} {i : Int} {Q : VK} (h : SqL K H a xs) (h0 : 0 ≤ i) (h1 : i < xs.length) (q : ∀ (j : Nat) (v : V), i = j → xs[j]? = some v → Q v H) : rIxL K (.ref a) (.int i) H Q := by
  obtain ⟨j, rfl⟩ := Int.eq_ofNat_of_zero_le h0
  have hj : j < xs.length := by omega
  exact ixL h (atI_nat (List.getElem?_eq_getElem hj)) (q j _ rfl (List.getElem?_eq_getElem hj))
theorem memD {K : PySem.W.Frag} {H : Hp} {a : Addr} {xs : List V} {i : Int} {Q : VK} (h : SqL K H a xs) (h0 : 0 ≤ i) (h1 : i < xs.length) (q : ∀ v ∈ xs, Q v H) : rIxL K (.ref a) (.int i) H Q :=
  ixD h h0 h1 fun j v _ e => q v (List.mem_of_getElem? e)
/-- a new object is not the state's -/
theorem Draw.ne {a p : Addr} {H H' : Hp} (h : Draw a H H') (e : H' p = none) : p ≠ a := fun z => by
  obtain ⟨⟨x, y, q, _⟩, _⟩ := h
  rw [z, q] at e
  cases e
theorem StAt.ne {a p : Addr} {H : Hp} (h : StAt H a) (e : H p = none) : p ≠ a := fun z => by
  obtain ⟨x, y, q, _⟩ := h
  rw [z, q] at e
  cases e
theorem sc_ii {i j : Int} : scal (.int i) (.int j) = true := rfl
theorem sc_ss {i j : Str} : scal (.str i) (.str j) = true := rfl
theorem sc_bb {i j : Bool} : scal (.bl i) (.bl j) = true := rfl
theorem sc_nn : scal .non .non = true := rfl
theorem sc_ni {i : Int} : scal .non (.int i) = true := rfl
theorem sc_in {i : Int} : scal (.int i) .non = true := rfl
theorem sc_nb {i : Bool} : scal .non (.bl i) = true := rfl
theorem sc_bn {i : Bool} : scal (.bl i) .non = true := rfl
theorem sc_ns {i : Str} : scal .non (.str i) = true := rfl
theorem sc_sn {i : Str} : scal (.str i) .non = true := rfl
end My

end
section
set_option maxRecDepth 100000
open PySem PySem.Spec PyProof.Rows L2
namespace My
/-! ### promises that hold where nothing is being shown (repr asks that) -/
structure FnG (P : Program) (w : World) (K : PySem.W.Frag) (mg : Str → Option Value) (base : Heap) (CX : CXT) (k : Nat) (f : Addr) (fd : FuncData) (ps : List Str) (sp : Sp) : Prop where
  len : ∀ as h q e, sp as h q e → as.length = ps.length
  run : ∀ (A : Around) (out : List Env) (s : Shared) (h : Hp) (args : Args) (us : List Value) (as : List V) (q : VK) (e : XK),
    Room k A → A.guards = some [] → Env0 P w K mg base A out s h → BindsTo s fd args (ps.zip us) → Vals as us → sp as h q e →
      codeAny (model P w) A (.call (.ref f) args) (CR CX out P w h s q e) s
section
variable {P : Program} {w : World} {K : PySem.W.Frag} {mg : Str → Option Value} {base : Heap} {CX : CXT}
theorem FnG.of {k : Nat} {f : Addr} {fd : FuncData} {ps : List Str} {sp : Sp} (F : FnOk P w K mg base CX k f fd ps sp) : FnG P w K mg base CX k f fd ps sp :=
  ⟨F.len, fun A out s h args us as q e r _ => F.run A out s h args us as q e r⟩
theorem FnG.mono {j k : Nat} {f : Addr} {fd : FuncData} {ps : List Str} {sp : Sp} (F : FnG P w K mg base CX j f fd ps sp) (h : j ≤ k) : FnG P w K mg base CX k f fd ps sp :=
  ⟨F.len, fun A out s h' args us as q e r => F.run A out s h' args us as q e (r.mono h)⟩
theorem FnG.imp {k : Nat} {f : Addr} {fd : FuncData} {ps : List Str} {sp sp' : Sp} (F : FnG P w K mg base CX k f fd ps sp) (h : ∀ as H q e, sp' as H q e → sp as H q e) : FnG P w K mg base CX k f fd ps sp' :=
  ⟨fun as H q e z => F.len as H q e (h _ _ _ _ z), fun A out s H args us as q e r g a b c d => F.run A out s H args us as q e r g a b c (h _ _ _ _ d)⟩
/-- a def's body gives its promise -/
theorem fnGc {x qual : Str} {st : Stmt} {f : Addr} {fd : FuncData} {N ps : List Str} {k : Nat} {sp : Sp} (F : Fun K x qual st f fd) (S : FnScope N ps (defScope st)) (len : ∀ as h q e, sp as h q e → as.length = ps.length)
    (hb : ∀ (cdv : Value) (A : Around) (out : List Env) (s : Shared) (h : Hp) (as : List V) (q : VK) (e : XK), fd.code = cdv → Room k (A.deeper (envOfC qual (defScope st) s.heap.objs.size f cdv)) → A.guards = some [] → sp as h q e →
      ∃ t, PSs (cxOf CX P w K mg base N qual (defScope st) f cdv A out s h e) (defBody st) t ∧ t { nx := fun _ h' => q .non h', rt := q } (L2.start N as) h) : FnG P w K mg base CX (k + 1) f fd ps sp := by
  obtain ⟨oc, od, kV, doc, pm, an, cdv, ct, osl, rfl, lk, hcd⟩ := F.ex
  refine ⟨len, fun A out s h args us as q e hr hg e0 bd rv hsp => ?_⟩
  have ln := len as h q e hsp
  have kin : K.In s.heap := e0.mod.kin.keeps (fun b o z => (e0.bs b o z).1)
  have nolim : s.heap.NoLimit := e0.mod.nolimit.keeps (fun b o z => (e0.bs b o z).1)
  have pk : ∀ y ∈ ps.zip us, (defScope st).names.lookup y.1 = some .local ∨ ((defScope st).names.lookup y.1 = some .cell ∧ ((cellsFrom (s.heap.objs.size + 1) (defScope st).names []).lookup y.1).isSome = true) := by
    rintro ⟨nm, vl⟩ hy
    exact (S.par nm (List.of_mem_zip hy).1).elim Or.inl fun z => Or.inr ⟨z, PySem.W.cellsFrom_some _ _ _ (Or.inl z)⟩
  refine codeAny_call_function hr.depth (kin _ _ lk) rfl S.co S.gen rfl (PySem.W.codeRec_of kin hcd) (bd _ _ _ _ (wpAny_newFunctionEnv_cells S.kind pk ?_))
  intro env he s1 x
  subst he
  refine ⟨nolim.keeps x.toInCall.keep, codeAny_func ?_⟩
  obtain ⟨t, ht, hq⟩ := hb cdv A out s h as q e rfl (hr.deeper _) hg hsp
  have I0 : Inv (cxOf CX P w K mg base N qual (defScope st) f cdv A out s h e) [] (L2.start N as) h s1 := inv_start S hr.hd e0 ln rv x
  refine wpAny_mono (ht.run [] s1 (L2.start N as) h _ I0 hq) (fun fl s' hs => ?_) (fun _ _ z => z)
  have goes : ∀ {σ' : L2.St} {h' : Hp} {v : V} {u : Value}, Inv (cxOf CX P w K mg base N qual (defScope st) f cdv A out s h e) [] σ' h' s' → RelV v u → q v h' → CE out P w h s q u s' := by
    intro σ' h' v u J r z
    exact ⟨v, h', J.os, J.bare, J.base, J.hok, r, z⟩
  match fl, hs with
  | .ret u, ⟨v, σ', h', J, r, z⟩ => exact goes J r z
  | .next, ⟨σ', h', J, z⟩ => exact goes (v := V.non) (u := Value.none) J rfl z
  | .brk, ⟨_, _, _, z⟩ => exact z.elim
  | .cont, ⟨_, _, _, z⟩ => exact z.elim
theorem fnG {x qual : Str} {st : Stmt} {f : Addr} {fd : FuncData} {N ps : List Str} {k : Nat} {sp : Sp} (F : Fun K x qual st f fd) (S : FnScope N ps (defScope st)) (len : ∀ as h q e, sp as h q e → as.length = ps.length)
    (hb : ∀ (cdv : Value) (A : Around) (out : List Env) (s : Shared) (h : Hp) (as : List V) (q : VK) (e : XK), Room k (A.deeper (envOfC qual (defScope st) s.heap.objs.size f cdv)) → A.guards = some [] → sp as h q e →
      ∃ t, PSs (cxOf CX P w K mg base N qual (defScope st) f cdv A out s h e) (defBody st) t ∧ t { nx := fun _ h' => q .non h', rt := q } (L2.start N as) h) : FnG P w K mg base CX (k + 1) f fd ps sp := fnGc F S len fun cdv A out s h as q e _ => hb cdv A out s h as q e
/-- .. where no exception leaves it -/
theorem fnG0 {x qual : Str} {st : Stmt} {f : Addr} {fd : FuncData} {N ps : List Str} {k : Nat} {sp : Sp} (F : Fun K x qual st f fd) (S : FnScope N ps (defScope st)) (len : ∀ as h q e, sp as h q e → as.length = ps.length)
    (hb : ∀ (cdv : Value) (A : Around) (out : List Env) (s : Shared) (h : Hp) (as : List V) (q : VK) (e : XK), Room k (A.deeper (envOfC qual (defScope st) s.heap.objs.size f cdv)) → A.guards = some [] → sp as h q e →
      ∃ t, PSs (cxOf CX0 P w K mg base N qual (defScope st) f cdv A out s h e).nox (defBody st) t ∧ t { nx := fun _ h' => q .non h', rt := q } (L2.start N as) h) : FnG P w K mg base CX0 (k + 1) f fd ps sp :=
  fnG F S len fun cdv A out s h as q e hr hg z => by
    obtain ⟨t, a, b⟩ := hb cdv A out s h as q e hr hg z
    exact ⟨t, a.nox, b⟩
/-- .. its code object told -/
theorem fnG0c {x qual : Str} {st : Stmt} {f : Addr} {fd : FuncData} {N ps : List Str} {k : Nat} {sp : Sp} (F : Fun K x qual st f fd) (S : FnScope N ps (defScope st)) (len : ∀ as h q e, sp as h q e → as.length = ps.length)
    (hb : ∀ (cdv : Value) (A : Around) (out : List Env) (s : Shared) (h : Hp) (as : List V) (q : VK) (e : XK), fd.code = cdv → Room k (A.deeper (envOfC qual (defScope st) s.heap.objs.size f cdv)) → A.guards = some [] → sp as h q e →
      ∃ t, PSs (cxOf CX0 P w K mg base N qual (defScope st) f cdv A out s h e).nox (defBody st) t ∧ t { nx := fun _ h' => q .non h', rt := q } (L2.start N as) h) : FnG P w K mg base CX0 (k + 1) f fd ps sp :=
  fnGc F S len fun cdv A out s h as q e hc hr hg z => by
    obtain ⟨t, a, b⟩ := hb cdv A out s h as q e hc hr hg z
    exact ⟨t, a.nox, b⟩
end
/-! ### calls -/
structure Cl (P : Program) (w : World) (K : PySem.W.Frag) (mg : Str → Option Value) (base : Heap) (CX : CXT) (k : Nat) (x : Str) (sp : Sp) : Prop where
  ex : ∃ (f : Addr) (fd : FuncData) (ps : List Str), FnG P w K mg base CX k f fd ps sp ∧ mg x = some (.ref f) ∧ PySem.W.keepIn K (.ref f) = true ∧ Binds K fd ps []
def tCl (sp : Sp) (E : XK) (t : TA) : TE := fun σ H Q => t σ H fun vs H1 => sp vs H1 Q E
section
variable {X : Cx} {CX : CXT} {k j : Nat} {x : Str} {sp : Sp} {p pos : Pos} {e : Expr} {es : List Expr} {t : TA} {E : XK} {f : Addr} {fd : FuncData} {ps : List Str}
theorem run_fnG {pins : List (Addr × Obj)} {σ : L2.St} {h : Hp} {s : Shared} {q : VK} {us : List Value} {as : List V} (F : FnG X.prog X.w X.K X.mg X.base CX k f fd ps sp) (hr : Room k X.A) (hgd : X.A.guards = some []) (hb : Binds X.K fd ps []) (hx : Passes CX X E)
    (I : Inv X pins σ h s) (r : Vals as us) (z : sp as h q E) : wpAny (model X.prog X.w) X.A (PySem.call (.ref f) us) (EP X pins σ q) X.xe s := by
  have ln : us.length = ps.length := by rw [← r.length]; exact F.len _ _ _ _ z
  have bd := hb s us I.kIn (by rw [List.append_nil]; exact ln)
  rw [List.append_nil] at bd
  refine wpAny_call (codeAny_mono (F.run X.A X.stack s h ⟨us, []⟩ us as q E hr hgd I.env0 bd r z) fun res s' hq => ?_)
  match res, hq with
  | .error er, hq => exact hx pins σ h s er s' I hq
  | .ok (.ret u), hq => exact I.after hq
  | .ok .next, hq => exact False.elim hq
  | .ok .brk, hq => exact False.elim hq
  | .ok .cont, hq => exact False.elim hq
theorem pe_clg (c : Cl X.prog X.w X.K X.mg X.base CX k x sp) (hr : Room j X.A) (hgd : X.A.guards = some []) (hk : k ≤ j) (hg : Gl X x) (hx : Passes CX X E) (ha : PA X (e :: es) t)
    (hdb : (x == ("__debug__" : Str)) = false := by decide) (he : starEach (e :: es) X.env = (false, eval e X.env) :: starEach es X.env := by rfl) (hpl : (backTo pos (starEach es X.env)).any (·.1) = false := by rfl) :
    PE X (.Call (.Name x p) (e :: es) [] pos) (tCl sp E t) := by
  obtain ⟨f, fd, ps, F, hm, kp, b⟩ := c.ex
  refine ⟨fun pins s σ h q I z => wpAny_Call_Name_kw (ld_glob I hg hm ?_ hdb)⟩
  refine PySem.W.callWith_K (h₀ := X.base) I.ok.mod.kin kp (thn (ha.run pos pins s σ h _ I z) ?_) he hpl
  rintro us s1 ⟨as, h1, I1, r, y⟩
  exact ⟨I1.kIn, run_fnG F (hr.mono hk) hgd b hx I1 r y⟩
end
section
variable {X : Cx} {CX : CXT} {k j : Nat} {x : Str} {sp : Sp} {p pos : Pos} {e : Expr} {es : List Expr} {t : TA} {E : XK}
/-- a def that raises nothing is called -/
theorem pe_cl (c : Cl X.prog X.w X.K X.mg X.base CX0 k x sp) (hr : Room j X.A) (hgd : X.A.guards = some []) (hk : k ≤ j) (hg : Gl X x) (ha : PA X (e :: es) t)
    (hdb : (x == ("__debug__" : Str)) = false := by decide) (he : starEach (e :: es) X.env = (false, eval e X.env) :: starEach es X.env := by rfl) (hpl : (backTo pos (starEach es X.env)).any (·.1) = false := by rfl) :
    PE X (.Call (.Name x p) (e :: es) [] pos) (tCl sp E0 t) := pe_clg c hr hgd hk hg pass0 ha hdb he hpl
/-- a def that may raise is called where nothing is let out -/
theorem pe_cln (c : Cl X.prog X.w X.K X.mg X.base (L2.CX X.prog X.w) k x sp) (hr : Room j X.A) (hgd : X.A.guards = some []) (hk : k ≤ j) (hg : Gl X x) (ha : PA X (e :: es) t)
    (hdb : (x == ("__debug__" : Str)) = false := by decide) (he : starEach (e :: es) X.env = (false, eval e X.env) :: starEach es X.env := by rfl) (hpl : (backTo pos (starEach es X.env)).any (·.1) = false := by rfl) :
    PE X (.Call (.Name x p) (e :: es) [] pos) (tCl sp E0 t) := pe_clg c hr hgd hk hg passL ha hdb he hpl
/-- .. in a def that lets the same out -/
theorem pe_clx {W : WX} (tk : Takes X W) (hW : ∀ cls d σ H, E cls d H → W cls d σ H) (c : Cl X.prog X.w X.K X.mg X.base (L2.CX X.prog X.w) k x sp) (hr : Room j X.A) (hgd : X.A.guards = some []) (hk : k ≤ j) (hg : Gl X x) (ha : PA X (e :: es) t)
    (hdb : (x == ("__debug__" : Str)) = false := by decide) (he : starEach (e :: es) X.env = (false, eval e X.env) :: starEach es X.env := by rfl) (hpl : (backTo pos (starEach es X.env)).any (·.1) = false := by rfl) :
    PE X (.Call (.Name x p) (e :: es) [] pos) (tCl sp E t) := pe_clg c hr hgd hk hg (passes_call tk hW) ha hdb he hpl
end
section
variable {P : Program} {w : World} {K : PySem.W.Frag} {mg : Str → Option Value} {base : Heap}
theorem Cl.mk' {CX : CXT} {k : Nat} {x : Str} {st : Stmt} {f : Addr} {fd : FuncData} {ps : List Str} {sp : Sp} (F : Fun K x x st f fd) (hm : mg x = some (.ref f)) (b : Binds K fd ps []) (G : FnG P w K mg base CX k f fd ps sp) : Cl P w K mg base CX k x sp :=
  ⟨f, fd, ps, G, hm, F.kp, b⟩
theorem Cl.mono {CX : CXT} {j k : Nat} {x : Str} {sp : Sp} (c : Cl P w K mg base CX j x sp) (h : j ≤ k) : Cl P w K mg base CX k x sp := by
  obtain ⟨f, fd, ps, F, a, b, d⟩ := c.ex
  exact ⟨f, fd, ps, F.mono h, a, b, d⟩
theorem Cl.imp {CX : CXT} {k : Nat} {x : Str} {sp sp' : Sp} (c : Cl P w K mg base CX k x sp) (h : ∀ as H q e, sp' as H q e → sp as H q e) : Cl P w K mg base CX k x sp' := by
  obtain ⟨f, fd, ps, F, a, b, d⟩ := c.ex
  exact ⟨f, fd, ps, F.imp h, a, b, d⟩
end
/-! ### the end -/
theorem law_callG {P : Program} {w : World} {K : PySem.W.Frag} {mg mb : Str → Option Value} {CX : CXT} {k : Nat} {fa a : Addr} {fd : FuncData} {x : Str} {sp : Sp} {s₁ : Shared} {vs : List Value} {ns : List Int}
    (kin : K.In s₁.heap) (hns : s₁.heap.Ns mainGlobals mg) (hb : s₁.heap.Ns builtinsNs mb) (hbb : ∀ x : Str, x ≠ "__name__" → mb x = bootBuiltins x) (hlim : s₁.heap.NoLimit) (hg : s₁.gens = #[])
    (ha : s₁.heap.get? a = some { cls := .type "list", data := .seq vs.toArray }) (hi : IntsAre vs ns) (hl : ns.length ≤ sizeLine) (hr : Room k callerA)
    (F : ∀ base : Heap, K.In base → base.Ns mainGlobals mg → FnG P w K mg base CX k fa fd [x] sp) (bd : ∀ (s : Shared) (u : Value), BindsTo s fd ⟨[u], []⟩ [(x, u)])
    (hsp : ∀ H : Hp, Only H → SqL K H a (ns.map V.int) → sp [.ref a] H (fun v _ => v = .bl true) fun _ _ _ => False)
    (hCX : ∀ H e s', CX [] H s₁ (fun _ _ _ => False) e s' → False) :
    codeAny (model P w) callerA (.call (.ref fa) ⟨[.ref a], []⟩) (fun r s' => r = .ok (.ret (.bool true)) ∧ OldK s₁.heap s'.heap ∧ s'.os = s₁.os ∧ AllBare s'.gens) s₁ := by
  have len := hi.length
  -- an abstract heap that tracks the script at most
  have main : ∀ H : Hp, Only H → SqL K H a (ns.map V.int) → HOk P w H s₁.heap → (∀ b, H b ≠ none → b = a) → (H a ≠ none → K.lookup a = none) →
      codeAny (model P w) callerA (.call (.ref fa) ⟨[.ref a], []⟩) (fun r s' => r = .ok (.ret (.bool true)) ∧ OldK s₁.heap s'.heap ∧ s'.os = s₁.os ∧ AllBare s'.gens) s₁ := by
    intro H only sq hok just hK
    have out : ∀ {b : Addr} {o : Obj} {es : Array DictEntry} {ep : Nat}, s₁.heap.get? b = some o → o.data = .dict es ep → H b = none := by
      intro b o es ep z1 z2
      refine Classical.byContradiction fun z => ?_
      obtain rfl := just b z
      rw [ha] at z1
      cases z1
      exact Data.noConfusion (show Data.seq vs.toArray _ = Data.dict es ep from z2)
    have ns2 : ∀ {b : Addr} {m : Str → Option Value}, s₁.heap.Ns b m → (hidT s₁.heap H).Ns b m := by
      rintro b m ⟨o, es, ep, z1, z2, z3⟩
      exact ⟨o, es, ep, hidT_get z1 (out z1 z2), z2, z3⟩
    have kb : K.In (hidT s₁.heap H) := by
      intro b o z
      refine hidT_get (kin b o z) (Classical.byContradiction fun y => ?_)
      have eb := just b y
      subst eb
      rw [hK y] at z
      cases z
    obtain ⟨mc, lm1, lm2⟩ := hlim
    have md : Mod K mg (hidT s₁.heap H) := ⟨kb, ns2 hns, ⟨mb, ns2 hb, hbb⟩, mc, ns2 lm1, lm2⟩
    have e0 : Env0 P w K mg (hidT s₁.heap H) callerA [] s₁ H := ⟨rfl, md, fun b o z => of_hidT z, Nat.le_of_eq (hidT_size _ _), trivial, (fun b z => nomatch (show b ∈ ([] : List Addr) from z)), hok, .of_eq hg⟩
    have go := (F _ kb (ns2 hns)).run callerA [] s₁ H ⟨[.ref a], []⟩ [.ref a] [.ref a] _ _ hr rfl e0 (bd s₁ (.ref a)) (.cons rfl .nil) (hsp H only sq)
    refine codeAny_mono go fun res s' z => ?_
    match res, z with
    | .error e, z => exact (hCX H e s' z).elim
    | .ok .next, z => exact False.elim z
    | .ok .brk, z => exact False.elim z
    | .ok .cont, z => exact False.elim z
    | .ok (.ret u), ⟨v, H', os, bare, un, hok', rv, z⟩ =>
      have ev : v = .bl true := z
      subst ev
      obtain rfl : u = Value.bool true := rv
      refine ⟨rfl, OldK.of_keep fun b o y => ?_, os, bare⟩
      rcases only b with n | ⟨ob, xs, n⟩
      · exact un.keep b o y n (fun z => nomatch (show b ∈ ([] : List Addr) from z)) (by simp)
      · obtain ⟨y1, _⟩ := hok b _ n
        obtain ⟨y2, _⟩ := hok' b _ (un.frzs b ob _ n)
        rw [y] at y1
        cases y1
        exact y2
  have rv := vals_ints hi
  cases hk : K.lookup a with
  | some o =>
    have z := kin a o hk
    rw [ha] at z
    cases z
    exact main (fun _ => none) (fun _ => Or.inl rfl) (Or.inr ⟨_, vs.toArray, _, hk, rfl, rfl, rfl, by rw [List.size_toArray, len]; exact hl, by simpa using rv⟩) (fun b u y => nomatch (show (none : Option HO) = some u from y)) (fun b y => (y rfl).elim) (fun y => (y rfl).elim)
  | none =>
    have at_ : ∀ b, b ≠ a → (if b = a then some (HO.frz { cls := .type "list", data := .seq vs.toArray } (.lst (ns.map V.int))) else none) = none := fun b n => if_neg n
    refine main (fun b => if b = a then some (.frz { cls := .type "list", data := .seq vs.toArray } (.lst (ns.map V.int))) else none) (fun b => ?_) (Or.inl (Or.inr ⟨_, if_pos rfl⟩)) (fun b u z => ?_) (fun b z => Classical.byContradiction fun n => z (at_ b n)) (fun _ => hk)
    · by_cases n : b = a
      · exact Or.inr ⟨_, _, if_pos n⟩
      · exact Or.inl (at_ b n)
    · by_cases n : b = a
      · subst n
        have z' := (if_pos rfl).symm.trans z
        cases z'
        exact ⟨ha, by rw [List.length_map]; exact hl, vs, _, rv, ha⟩
      · exact nomatch (at_ b n).symm.trans z
theorem walk_ofG {l : PySem.W.OpenLaw} {n k : Nat} {q : Program} {loose : List Str} {XP : (Str → Option Value) → Heap → Prop} {YP : World → Heap → Prop} {d : DefRec} {K : Params → PySem.W.Frag} {x : Str}
    (hn : l.most = some n) (hn2 : n ≤ sizeLine) (hdf : d.params.defaults = []) (hr : Room k callerA) {sp : PySem.W.Frag → Sp}
    (hY : ∀ (w : World) (h : Heap), YP w h → (K w.params).In h)
    (F : ∀ (w : World) (mg : Str → Option Value) (fa : Addr) (h : Heap), (K w.params).In h → h.Ns mainGlobals mg → mg d.name = some (.ref fa) →
      ∃ fd : FuncData, (∀ (s : Shared) (u : Value), BindsTo s fd ⟨[u], []⟩ [(x, u)]) ∧ ∀ base : Heap, (K w.params).In base → base.Ns mainGlobals mg → FnG l.prog w (K w.params) mg base CX0 k fa fd [x] (sp (K w.params)))
    (hsp : ∀ (K : PySem.W.Frag) (H : Hp) (a : Addr) (ns : List Int), ns.length ≤ n → Only H → SqL K H a (ns.map V.int) → sp K [.ref a] H (fun v _ => v = .bl true) fun _ _ _ => False) :
    PySem.W.WalkO q loose XP YP l.row.toRowW d [] (fun f vs => PySem.call f vs) := by
  refine Att.attach_call hn hdf ?_
  intro w s₀ s₁ mg mb fa o pm cd doc a vs ns G Y ho hd hcd hmg hobj hints hlen hg
  have kin := hY w _ Y
  obtain ⟨fd, bd, hF⟩ := F w mg fa _ kin G.T.g hmg
  exact law_callG kin G.T.g G.T.b G.T.builtins G.T.nolimit hg hobj hints (Nat.le_trans hlen hn2) hr hF bd (fun H o s => hsp (K w.params) H a ns hlen o s) (fun _ _ _ z => z)
end My

end
section
namespace NT
/-! ### primes -/
def Pr (p : Nat) : Prop := 2 ≤ p ∧ ∀ d, d ∣ p → d = 1 ∨ d = p
theorem Pr.two {p : Nat} (h : Pr p) : 2 ≤ p := h.1
theorem Pr.pos {p : Nat} (h : Pr p) : 0 < p := Nat.lt_of_lt_of_le (by decide) h.1
theorem Pr.cop {p a : Nat} (h : Pr p) (ha : ¬ p ∣ a) : Nat.gcd p a = 1 := by
  rcases h.2 _ (Nat.gcd_dvd_left p a) with e | e
  · exact e
  · exact absurd (e ▸ Nat.gcd_dvd_right p a) ha
theorem Pr.dvd_mul {p a b : Nat} (h : Pr p) (hd : p ∣ a * b) : p ∣ a ∨ p ∣ b := by
  by_cases ha : p ∣ a
  · exact .inl ha
  · exact .inr (Nat.Coprime.dvd_of_dvd_mul_left (show Nat.Coprime p a from h.cop ha) hd)
theorem Pr.dvd_pow {p a : Nat} (h : Pr p) : ∀ {k : Nat}, p ∣ a ^ k → p ∣ a
  | 0, hd => by
    have := Nat.le_of_dvd (by decide) (by simpa using hd : p ∣ 1)
    have := h.1
    omega
  | k + 1, hd => by
    rw [Nat.pow_succ] at hd
    rcases h.dvd_mul hd with e | e
    · exact h.dvd_pow e
    · exact e
theorem Pr.eq_of_dvd {p q : Nat} (hp : Pr p) (hq : Pr q) (h : p ∣ q) : p = q := by
  rcases hq.2 _ h with e | e
  · have := hp.1
    omega
  · exact e
/-- no divisor from 2 to below p, and p divides: p is a prime -/
theorem pr_of_least {p L : Nat} (h2 : 2 ≤ p) (hd : p ∣ L) (hn : ∀ q, 2 ≤ q → q < p → ¬ q ∣ L) : Pr p := by
  refine ⟨h2, fun d hdp => ?_⟩
  have hdpos : 0 < d := by
    rcases Nat.eq_zero_or_pos d with e | e
    · subst e
      have := Nat.eq_zero_of_zero_dvd hdp
      omega
    · exact e
  have hle : d ≤ p := Nat.le_of_dvd (by omega) hdp
  by_cases h1 : d = 1
  · exact .inl h1
  · by_cases h3 : d = p
    · exact .inr h3
    · exact absurd (Nat.dvd_trans hdp hd) (hn d (by omega) (by omega))
/-- beyond the root nothing is left but a prime -/
theorem pr_of_root {p L : Nat} (hL : 1 < L) (hpp : L < p * p) (hn : ∀ q, 2 ≤ q → q < p → ¬ q ∣ L) : Pr L := by
  refine ⟨hL, fun d hd => ?_⟩
  obtain ⟨c, hc⟩ := hd
  have hd0 : 0 < d := by
    rcases Nat.eq_zero_or_pos d with e | e
    · rw [e, Nat.zero_mul] at hc; omega
    · exact e
  have hc0 : 0 < c := by
    rcases Nat.eq_zero_or_pos c with e | e
    · rw [e, Nat.mul_zero] at hc; omega
    · exact e
  by_cases h1 : d = 1
  · exact .inl h1
  by_cases h2 : c = 1
  · right; rw [h2, Nat.mul_one] at hc; exact hc.symm
  exfalso
  by_cases h3 : d < p
  · exact hn d (by omega) h3 ⟨c, hc⟩
  by_cases h4 : c < p
  · exact hn c (by omega) h4 ⟨d, by rw [Nat.mul_comm]; exact hc⟩
  have : p * p ≤ d * c := Nat.mul_le_mul (by omega) (by omega)
  omega
/-! ### the parts of a number -/
def pprod : List (Nat × Nat) → Nat
  | [] => 1
  | q :: r => q.1 ^ q.2 * pprod r
theorem pprod_app : ∀ l r : List (Nat × Nat), pprod (l ++ r) = pprod l * pprod r
  | [], r => by simp [pprod]
  | q :: l, r => by simp [pprod, pprod_app l r, Nat.mul_assoc]
structure Parts (n : Nat) (l : List (Nat × Nat)) : Prop where
  pr : ∀ q ∈ l, Pr q.1 ∧ 1 ≤ q.2
  up : l.Pairwise fun a b => a.1 < b.1
  prod : pprod l = n
theorem dvd_pprod {p : Nat} (hp : Pr p) : ∀ {l : List (Nat × Nat)}, (∀ q ∈ l, Pr q.1) → p ∣ pprod l → ∃ q ∈ l, q.1 = p
  | [], _, h => by
    have h2 : p ≤ 1 := Nat.le_of_dvd (by decide) (h : p ∣ 1)
    have := hp.1
    omega
  | q :: l, hl, h => by
    rcases hp.dvd_mul (h : p ∣ q.1 ^ q.2 * pprod l) with e | e
    · exact ⟨q, List.mem_cons_self, (hp.eq_of_dvd (hl q List.mem_cons_self) (hp.dvd_pow e)).symm⟩
    · obtain ⟨r, h1, h2⟩ := dvd_pprod hp (fun q h => hl q (List.mem_cons_of_mem _ h)) e
      exact ⟨r, List.mem_cons_of_mem _ h1, h2⟩
theorem mem_dvd : ∀ {l : List (Nat × Nat)} {q : Nat × Nat}, q ∈ l → q.1 ^ q.2 ∣ pprod l
  | a :: l, q, h => by
    rcases List.mem_cons.mp h with e | e
    · subst e
      exact Nat.dvd_mul_right _ _
    · exact Nat.dvd_trans (mem_dvd e) (Nat.dvd_mul_left _ _)
theorem pow_cancel {p a b x y : Nat} (hp : Pr p) (hx : ¬ p ∣ x) (hy : ¬ p ∣ y) (h : p ^ a * x = p ^ b * y) : a = b ∧ x = y := by
  have pos : ∀ k, 0 < p ^ k := fun k => Nat.pow_pos hp.pos
  have key : ∀ {a b x y : Nat}, ¬ p ∣ y → a ≤ b → p ^ b * x = p ^ a * y → a = b := by
    intro a b x y hy hab h
    by_cases e : a = b
    · exact e
    exfalso
    obtain ⟨c, hc⟩ : ∃ c, b = a + (c + 1) := ⟨b - a - 1, by omega⟩
    rw [hc, Nat.pow_add, Nat.mul_assoc] at h
    have h2 := Nat.eq_of_mul_eq_mul_left (pos a) h
    apply hy
    rw [← h2, Nat.pow_succ, Nat.mul_comm (p ^ c) p, Nat.mul_assoc]
    exact Nat.dvd_mul_right _ _
  have e : a = b := by
    rcases Nat.le_total a b with hab | hab
    · exact key hx hab h.symm
    · exact (key hy hab h).symm
  subst e
  exact ⟨rfl, Nat.eq_of_mul_eq_mul_left (pos a) h⟩
theorem Parts.nil_uniq {q : Nat × Nat} {r : List (Nat × Nat)} {n : Nat} (h1 : Parts n []) (h2 : Parts n (q :: r)) : False := by
  have e : q.1 ^ q.2 * pprod r = 1 := h2.prod.trans h1.prod.symm
  have hq := h2.pr q List.mem_cons_self
  have e1 := Nat.eq_one_of_mul_eq_one_right e
  have := hq.1.1
  have h3 : q.1 ∣ q.1 ^ q.2 := by
    obtain ⟨k, hk⟩ : ∃ k, q.2 = k + 1 := ⟨q.2 - 1, by omega⟩
    rw [hk, Nat.pow_succ]; exact Nat.dvd_mul_left _ _
  rw [e1] at h3
  have := Nat.le_of_dvd (by decide) h3
  omega
theorem Parts.uniq : ∀ {l r : List (Nat × Nat)} {n : Nat}, Parts n l → Parts n r → l = r
  | [], [], _, _, _ => rfl
  | [], q :: r, n, h1, h2 => (h1.nil_uniq h2).elim
  | q :: l, [], n, h1, h2 => (h2.nil_uniq h1).elim
  | q :: l, s :: r, n, h1, h2 => by
    have hq := h1.pr q List.mem_cons_self
    have hs := h2.pr s List.mem_cons_self
    have ul := List.pairwise_cons.mp h1.up
    have ur := List.pairwise_cons.mp h2.up
    have self_dvd : ∀ {q : Nat × Nat}, 1 ≤ q.2 → q.1 ∣ q.1 ^ q.2 := fun {q} h => by
      obtain ⟨k, hk⟩ : ∃ k, q.2 = k + 1 := ⟨q.2 - 1, by omega⟩
      rw [hk, Nat.pow_succ]; exact Nat.dvd_mul_left _ _
    have least : ∀ {q s : Nat × Nat} {r : List (Nat × Nat)}, Pr q.1 → (∀ t ∈ s :: r, Pr t.1) → (∀ t ∈ r, s.1 < t.1) → q.1 ∣ pprod (s :: r) → s.1 ≤ q.1 := fun {q s r} hq hr hu hd => by
      obtain ⟨t, ht, e⟩ := dvd_pprod hq hr hd
      rcases List.mem_cons.mp ht with z | z
      · rw [← e, z]; exact Nat.le_refl _
      · rw [← e]; exact Nat.le_of_lt (hu t z)
    have d1 : q.1 ∣ pprod (s :: r) := by rw [h2.prod, ← h1.prod]; exact Nat.dvd_trans (self_dvd hq.2) (Nat.dvd_mul_right _ _)
    have d2 : s.1 ∣ pprod (q :: l) := by rw [h1.prod, ← h2.prod]; exact Nat.dvd_trans (self_dvd hs.2) (Nat.dvd_mul_right _ _)
    have e1 : q.1 = s.1 := Nat.le_antisymm (least hs.1 (fun t h => (h1.pr t h).1) ul.1 d2) (least hq.1 (fun t h => (h2.pr t h).1) ur.1 d1)
    have no : ∀ {q : Nat × Nat} {l : List (Nat × Nat)}, Pr q.1 → (∀ t ∈ l, Pr t.1) → (∀ t ∈ l, q.1 < t.1) → ¬ q.1 ∣ pprod l := fun {q l} hq hl hu hd => by
      obtain ⟨t, ht, e⟩ := dvd_pprod hq hl hd
      have := hu t ht
      omega
    have n1 := no hq.1 (fun t h => (h1.pr t (List.mem_cons_of_mem _ h)).1) ul.1
    have n2 := no hs.1 (fun t h => (h2.pr t (List.mem_cons_of_mem _ h)).1) ur.1
    have e : q.1 ^ q.2 * pprod l = q.1 ^ s.2 * pprod r := by
      have z : q.1 ^ q.2 * pprod l = s.1 ^ s.2 * pprod r := h1.prod.trans h2.prod.symm
      rw [z, e1]
    rw [← e1] at n2
    obtain ⟨e2, e3⟩ := pow_cancel hq.1 n1 n2 e
    have ih := Parts.uniq (l := l) (r := r) (n := pprod l) ⟨fun t h => h1.pr t (List.mem_cons_of_mem _ h), ul.2, rfl⟩ ⟨fun t h => h2.pr t (List.mem_cons_of_mem _ h), ur.2, e3.symm⟩
    rw [ih]
    congr 1
    exact Prod.ext e1 e2
theorem Parts.one : Parts 1 [] := ⟨fun _ h => absurd h List.not_mem_nil, List.Pairwise.nil, rfl⟩
theorem Parts.prime {p : Nat} (h : Pr p) : Parts p [(p, 1)] := ⟨fun q hq => by
  rw [List.mem_singleton] at hq; subst hq; exact ⟨h, Nat.le_refl _⟩, List.pairwise_singleton _ _, by simp [pprod]⟩
theorem Parts.is_prime {p : Nat} {l : List (Nat × Nat)} (h : Parts p l) : Pr p ↔ l = [(p, 1)] :=
  ⟨fun hp => h.uniq (Parts.prime hp), fun e => by subst e; exact (h.pr (p, 1) List.mem_cons_self).1⟩
/-! ### the loop of trial: what holds between two turns -/
structure Tried (n : Nat) (acc : List (Nat × Nat)) (L p : Nat) : Prop where
  pr : ∀ q ∈ acc, Pr q.1 ∧ 1 ≤ q.2
  up : acc.Pairwise fun a b => a.1 < b.1
  lt : ∀ q ∈ acc, q.1 < p
  prod : pprod acc * L = n
  no : ∀ q, 2 ≤ q → q < p → ¬ q ∣ L
  two : 2 ≤ p
  pos : 1 ≤ L
theorem Tried.start {n : Nat} (h : 1 ≤ n) : Tried n [] n 2 := ⟨fun _ h => absurd h List.not_mem_nil, .nil, fun _ h => absurd h List.not_mem_nil, by simp [pprod], fun q h1 h2 => by omega, Nat.le_refl _, h⟩
theorem snoc_up {acc : List (Nat × Nat)} {p e : Nat} (up : acc.Pairwise fun a b => a.1 < b.1) (lt : ∀ q ∈ acc, q.1 < p) : (acc ++ [(p, e)]).Pairwise fun a b => a.1 < b.1 :=
  List.pairwise_append.mpr ⟨up, List.pairwise_singleton _ _, fun a ha b hb => by rw [List.mem_singleton] at hb; subst hb; exact lt a ha⟩
/-- one p tried: it goes e times, L is left -/
theorem Tried.next {n : Nat} {acc : List (Nat × Nat)} {L0 L p e : Nat} (h : Tried n acc L0 p) (hL : L0 = p ^ e * L) (hn : ¬ p ∣ L) : Tried n (if 0 < e then acc ++ [(p, e)] else acc) L (p + 1) := by
  have hL1 : 1 ≤ L := by
    rcases Nat.eq_zero_or_pos L with z | z
    · exact absurd (z ▸ Nat.dvd_zero p) hn
    · exact z
  have no' : ∀ q, 2 ≤ q → q < p + 1 → ¬ q ∣ L := fun q h1 h2 hd => by
    by_cases z : q = p
    · exact hn (z ▸ hd)
    · exact h.no q h1 (by omega) (hL ▸ Nat.dvd_trans hd (Nat.dvd_mul_left _ _))
  split
  · rename_i he
    have hp : Pr p := pr_of_least h.two (by
      obtain ⟨k, hk⟩ : ∃ k, e = k + 1 := ⟨e - 1, by omega⟩
      rw [hL, hk, Nat.pow_succ, Nat.mul_comm (p ^ k) p, Nat.mul_assoc]; exact Nat.dvd_mul_right _ _) h.no
    refine ⟨fun q hq => ?_, snoc_up h.up h.lt, fun q hq => ?_, ?_, no', by have := h.two; omega, hL1⟩
    · rcases List.mem_append.mp hq with z | z
      · exact h.pr q z
      · rw [List.mem_singleton] at z; subst z; exact ⟨hp, he⟩
    · rcases List.mem_append.mp hq with z | z
      · exact Nat.lt_succ_of_lt (h.lt q z)
      · rw [List.mem_singleton] at z; subst z; exact Nat.lt_succ_self _
    · rw [pprod_app, ← h.prod, hL]; simp [pprod, Nat.mul_assoc]
  · rename_i he
    have e0 : e = 0 := by omega
    subst e0
    rw [Nat.pow_zero, Nat.one_mul] at hL
    exact ⟨h.pr, h.up, fun q hq => Nat.lt_succ_of_lt (h.lt q hq), hL ▸ h.prod, no', by have := h.two; omega, hL1⟩
theorem pow_len : ∀ {l : List (Nat × Nat)}, (∀ q ∈ l, Pr q.1 ∧ 1 ≤ q.2) → 2 ^ l.length ≤ pprod l
  | [], _ => Nat.le_refl _
  | q :: l, h => by
    have h1 := pow_len fun r hr => h r (List.mem_cons_of_mem _ hr)
    have h2 := h q List.mem_cons_self
    have h3 : 2 ≤ q.1 ^ q.2 := Nat.le_trans h2.1.1 (Nat.le_self_pow (by omega) _)
    rw [List.length_cons, Nat.pow_succ, Nat.mul_comm]
    exact Nat.mul_le_mul h3 h1
theorem Tried.le {n : Nat} {acc : List (Nat × Nat)} {L p : Nat} (h : Tried n acc L p) (hn : 1 ≤ n) : L ≤ n := by
  have : L ∣ n := ⟨pprod acc, by rw [Nat.mul_comm]; exact h.prod.symm⟩
  exact Nat.le_of_dvd hn this
/-- beyond the root: the end -/
theorem Tried.last {n : Nat} {acc : List (Nat × Nat)} {L p : Nat} (h : Tried n acc L p) (hp : L < p * p) : Parts n (if 1 < L then acc ++ [(L, 1)] else acc) := by
  split
  · rename_i hL
    have pL : Pr L := pr_of_root hL hp h.no
    have lt : ∀ q ∈ acc, q.1 < L := fun q hq => by
      have h1 := h.lt q hq
      by_cases z : L < p
      · exact absurd (Nat.dvd_refl L) (h.no L hL z)
      · omega
    refine ⟨fun q hq => ?_, snoc_up h.up lt, ?_⟩
    · rcases List.mem_append.mp hq with z | z
      · exact h.pr q z
      · rw [List.mem_singleton] at z; subst z; exact ⟨pL, Nat.le_refl _⟩
    · rw [pprod_app, ← h.prod]; simp [pprod]
  · rename_i hL
    have : L = 1 := by have := h.pos; omega
    subst this
    exact ⟨h.pr, h.up, by have := h.prod; simpa using this⟩
/-- p raised to the rest itself, where it is beyond the root -/
theorem Tried.jump {n : Nat} {acc : List (Nat × Nat)} {L p : Nat} (h : Tried n acc L p) (hL : 1 < L) (hp : L < p * p) : Tried n acc L L := by
  have pL : Pr L := pr_of_root hL hp h.no
  refine ⟨h.pr, h.up, fun q hq => ?_, h.prod, fun q h1 h2 hd => ?_, hL, h.pos⟩
  · have h1 := h.lt q hq
    by_cases z : L < p
    · exact absurd (Nat.dvd_refl L) (h.no L hL z)
    · omega
  · rcases pL.2 q hd with e | e <;> omega
theorem Tried.done {n : Nat} {acc : List (Nat × Nat)} {p : Nat} (h : Tried n acc 1 p) : Parts n acc := ⟨h.pr, h.up, by have := h.prod; simpa using this⟩
end NT
namespace NT
theorem len_of {l : List (Nat × Nat)} {n k : Nat} (h : ∀ q ∈ l, Pr q.1 ∧ 1 ≤ q.2) (hn : pprod l ≤ n) (hk : n < 2 ^ k) : l.length < k := by
  have h1 := pow_len h
  have h2 : 2 ^ l.length < 2 ^ k := Nat.lt_of_le_of_lt h1 (Nat.lt_of_le_of_lt hn hk)
  exact (Nat.pow_lt_pow_iff_right (by decide)).mp h2
theorem Tried.len {n : Nat} {acc : List (Nat × Nat)} {L p k : Nat} (h : Tried n acc L p) (hk : n < 2 ^ k) : acc.length < k := by
  refine len_of h.pr ?_ hk
  rw [← h.prod]
  exact Nat.le_mul_of_pos_right _ h.pos
theorem Parts.len {n : Nat} {l : List (Nat × Nat)} {k : Nat} (h : Parts n l) (hk : n < 2 ^ k) : l.length < k := len_of h.pr (Nat.le_of_eq h.prod) hk
end NT

end
section
namespace PowN
theorem sq (s : Int) : ∀ k : Nat, (s * s) ^ k = s ^ (2 * k) := fun k => by rw [Int.pow_mul, Int.pow_succ, Int.pow_succ, Int.pow_zero, Int.one_mul]
theorem mod_pow (s n : Int) : ∀ k : Nat, (s % n) ^ k % n = s ^ k % n
  | 0 => by rw [Int.pow_zero, Int.pow_zero]
  | k + 1 => by
    rw [Int.pow_succ, Int.pow_succ, Int.mul_emod, mod_pow s n k, Int.emod_emod_of_dvd _ (Int.dvd_refl n), ← Int.mul_emod]
theorem start (b o n : Int) : (1 % n) * (b % n) ^ o.toNat % n = b ^ o.toNat % n := by
  rw [Int.mul_emod, Int.emod_emod_of_dvd _ (Int.dvd_refl n), mod_pow, ← Int.mul_emod, Int.one_mul]
theorem odd {f s l n : Int} (hl : 0 ≤ l) (h1 : l % 2 = 1) : (f * s % n) * (s * s % n) ^ (l / 2).toNat % n = f * s ^ l.toNat % n := by
  have e : l.toNat = 2 * (l / 2).toNat + 1 := by omega
  rw [Int.mul_emod, Int.emod_emod_of_dvd _ (Int.dvd_refl n), mod_pow, ← Int.mul_emod, sq, e, Int.pow_succ, Int.mul_assoc, Int.mul_comm s]
theorem even {f s l n : Int} (hl : 0 ≤ l) (h1 : l % 2 = 0) : f * (s * s % n) ^ (l / 2).toNat % n = f * s ^ l.toNat % n := by
  have e : l.toNat = 2 * (l / 2).toNat := by omega
  rw [Int.mul_emod, mod_pow, ← Int.mul_emod, sq, e]
end PowN
namespace GcdN
theorem step {x y : Int} (hx : 0 ≤ x) (hy : 0 ≤ y) : Int.gcd y (x % y) = Int.gcd x y := by
  obtain ⟨a, rfl⟩ := Int.eq_ofNat_of_zero_le hx
  obtain ⟨b, rfl⟩ := Int.eq_ofNat_of_zero_le hy
  show Int.gcd (b : Int) ((a % b : Nat) : Int) = Int.gcd (a : Int) (b : Int)
  rw [Int.gcd_natCast_natCast, Int.gcd_natCast_natCast, Nat.gcd_comm a b]
  rw [Nat.gcd_comm b (a % b), ← Nat.gcd_rec]
end GcdN
namespace EgcN
theorem gcd_mod (a n : Int) : Int.gcd (a % n) n = Int.gcd a n := by
  rw [Int.emod_def, Int.gcd_sub_mul_left_left]
/-- the loop of divisions, with what undoes a by n -/
structure Inv (a n x y f s : Int) : Prop where
  x0 : 1 ≤ x
  y0 : 0 ≤ y
  xn : x ≤ n
  yn : y ≤ n
  e1 : f * a % n = x % n
  e2 : s * a % n = y % n
  bd : s.natAbs * x.natAbs + f.natAbs * y.natAbs ≤ n.natAbs
  g : Int.gcd x y = Int.gcd a n
theorem start {a n : Int} (h : 0 < n) : Inv a n n (a % n) 0 1 := by
  have h1 := Int.emod_lt_of_pos a h
  have h2 := Int.emod_nonneg a (show n ≠ 0 by omega)
  refine ⟨by omega, h2, by omega, by omega, by simp, by rw [Int.one_mul, Int.emod_emod_of_dvd _ (Int.dvd_refl n)], by simp, ?_⟩
  rw [Int.gcd_comm, gcd_mod]
theorem Inv.bounds {a n x y f s : Int} (I : Inv a n x y f s) (hy : 0 < y) : -n ≤ s ∧ s ≤ n ∧ -n ≤ f ∧ f ≤ n := by
  have h := I.bd
  have x0 := I.x0
  have xn := I.xn
  have h1 : f.natAbs ≤ f.natAbs * y.natAbs := Nat.le_mul_of_pos_right _ (by omega)
  have h2 : s.natAbs ≤ s.natAbs * x.natAbs := Nat.le_mul_of_pos_right _ (by omega)
  omega
theorem Inv.fin {a n x f s : Int} (I : Inv a n x 0 f s) : x = (Int.gcd a n : Nat) := by
  have h := I.g
  rw [Int.gcd_zero_right] at h
  have := I.x0
  omega
theorem natAbs_sub_mul (f q s : Int) (hq : 0 ≤ q) : (f - q * s).natAbs ≤ f.natAbs + q.natAbs * s.natAbs := by
  have h := Int.natAbs_sub_le f (q * s)
  rw [Int.natAbs_mul] at h
  exact h
theorem Inv.step {a n x y f s : Int} (I : Inv a n x y f s) (hy : 0 < y) : Inv a n y (x - x / y * y) s (f - x / y * s) := by
  have e : x - x / y * y = x % y := by rw [Int.emod_def, Int.mul_comm]
  have m0 := Int.emod_nonneg x (show y ≠ 0 by omega)
  have m1 := Int.emod_lt_of_pos x hy
  have x0 := I.x0
  have hq0 : 0 ≤ x / y := Int.ediv_nonneg (by omega) (by omega)
  have yn := I.yn
  refine ⟨by omega, by omega, yn, by omega, I.e2, ?_, ?_, ?_⟩
  · have h : (f - x / y * s) * a % n = (x - x / y * y) % n := by
      rw [Int.sub_mul, Int.sub_emod, I.e1, Int.mul_assoc, Int.mul_emod (x / y) (s * a), I.e2, ← Int.mul_emod, ← Int.sub_emod]
    exact h
  · have h1 := natAbs_sub_mul f (x / y) s hq0
    have h2 : (x.natAbs : Int) = (x / y).natAbs * y.natAbs + (x - x / y * y).natAbs := by
      have e1 : ((x.natAbs : Nat) : Int) = x := by omega
      have e2 : (((x / y).natAbs : Nat) : Int) = x / y := by omega
      have e3 : ((y.natAbs : Nat) : Int) = y := by omega
      have e4 : (((x - x / y * y).natAbs : Nat) : Int) = x - x / y * y := by omega
      rw [e1, e2, e3, e4]; omega
    have h3 : x.natAbs = (x / y).natAbs * y.natAbs + (x - x / y * y).natAbs := by exact_mod_cast h2
    have h := I.bd
    have h4 : (f - x / y * s).natAbs * y.natAbs ≤ (f.natAbs + (x / y).natAbs * s.natAbs) * y.natAbs := Nat.mul_le_mul_right _ h1
    rw [Nat.add_mul] at h4
    have key : ∀ S X C Y D : Nat, X = C * Y + D → S * X = C * S * Y + S * D := fun S X C Y D e => by
      rw [e, Nat.mul_add, ← Nat.mul_assoc, Nat.mul_comm S C]
    have h5 := key s.natAbs _ _ _ _ h3
    omega
  · rw [← I.g, e, Int.gcd_comm, gcd_mod]
end EgcN

end
section
namespace NT
/-! ### lists without twice: arrangements -/
theorem perm_of_sub {α : Type} [DecidableEq α] : ∀ {l r : List α}, l.Nodup → (∀ x ∈ l, x ∈ r) → r.length ≤ l.length → l.Perm r
  | [], r, _, _, h => by
    have : r = [] := List.eq_nil_of_length_eq_zero (by simpa using h)
    rw [this]
  | a :: l, r, hn, hs, h => by
    have ha : a ∈ r := hs a List.mem_cons_self
    have hn' := List.nodup_cons.mp hn
    have p := List.perm_cons_erase ha
    refine List.Perm.trans (List.Perm.cons a ?_) p.symm
    refine perm_of_sub hn'.2 (fun x hx => ?_) ?_
    · refine (List.mem_erase_of_ne (fun (z : x = a) => hn'.1 (z ▸ hx))).mpr (hs x (List.mem_cons_of_mem _ hx))
    · rw [List.length_erase_of_mem ha]
      rw [List.length_cons] at h
      omega
theorem nodup_map {α β : Type} {f : α → β} : ∀ {l : List α}, l.Nodup → (∀ x ∈ l, ∀ y ∈ l, f x = f y → x = y) → (l.map f).Nodup
  | [], _, _ => List.nodup_nil
  | a :: l, hn, hi => by
    have hn' := List.nodup_cons.mp hn
    rw [List.map_cons, List.nodup_cons]
    refine ⟨fun h => ?_, nodup_map hn'.2 fun x hx y hy => hi x (List.mem_cons_of_mem _ hx) y (List.mem_cons_of_mem _ hy)⟩
    obtain ⟨x, hx, e⟩ := List.mem_map.mp h
    have := hi x (List.mem_cons_of_mem _ hx) a List.mem_cons_self e
    exact hn'.1 (this ▸ hx)
theorem perm_map {α : Type} [DecidableEq α] {f : α → α} {l : List α} (hn : l.Nodup) (hc : ∀ x ∈ l, f x ∈ l) (hi : ∀ x ∈ l, ∀ y ∈ l, f x = f y → x = y) : (l.map f).Perm l :=
  perm_of_sub (nodup_map hn hi) (fun y hy => by obtain ⟨x, hx, e⟩ := List.mem_map.mp hy; exact e ▸ hc x hx) (by rw [List.length_map]; exact Nat.le_refl _)
def lprod : List Nat → Nat
  | [] => 1
  | x :: l => x * lprod l
theorem lprod_perm {l r : List Nat} (h : l.Perm r) : lprod l = lprod r := by
  induction h with
  | nil => rfl
  | cons x _ ih => simp only [lprod, ih]
  | swap x y l => simp only [lprod]; rw [← Nat.mul_assoc, ← Nat.mul_assoc, Nat.mul_comm y x]
  | trans _ _ h1 h2 => exact h1.trans h2
theorem cop_mul {a b n : Nat} (ha : Nat.gcd a n = 1) (hb : Nat.gcd b n = 1) : Nat.gcd (a * b) n = 1 := Nat.Coprime.mul_left (m := a) (n := b) (k := n) ha hb
theorem cop_lprod {n : Nat} : ∀ {l : List Nat}, (∀ x ∈ l, Nat.gcd x n = 1) → Nat.gcd (lprod l) n = 1
  | [], _ => Nat.gcd_one_left n
  | x :: l, h => cop_mul (h x List.mem_cons_self) (cop_lprod fun y hy => h y (List.mem_cons_of_mem _ hy))
theorem dvd_of_cop {n c : Nat} {z : Int} (hc : Nat.gcd c n = 1) (h : (n : Int) ∣ c * z) : (n : Int) ∣ z := by
  have h1 : n ∣ c * z.natAbs := by
    have := Int.natAbs_dvd_natAbs.mpr h
    rw [Int.natAbs_mul] at this
    exact this
  have h2 : n ∣ z.natAbs := Nat.Coprime.dvd_of_dvd_mul_left (show Nat.Coprime n c by rw [Nat.coprime_iff_gcd_eq_one, Nat.gcd_comm]; exact hc) h1
  exact Int.dvd_natAbs.mp (by exact_mod_cast h2)
theorem mod_iff {a b n : Int} : a % n = b % n ↔ n ∣ a - b := by
  constructor
  · intro h
    exact Int.dvd_of_emod_eq_zero (by rw [Int.sub_emod, h, Int.sub_self, Int.zero_emod])
  · intro h
    exact Int.emod_eq_emod_iff_emod_sub_eq_zero.mpr (Int.emod_eq_zero_of_dvd h)
theorem cancel {c n x y : Nat} (hc : Nat.gcd c n = 1) (h : c * x % n = c * y % n) : x % n = y % n := by
  have h' : ((c * x : Nat) : Int) % n = ((c * y : Nat) : Int) % n := by exact_mod_cast h
  have h1 := mod_iff.mp h'
  have h2 : (n : Int) ∣ (c : Int) * ((x : Int) - y) := by
    rw [Int.mul_sub]; simpa using h1
  have h3 := mod_iff.mpr (dvd_of_cop hc h2)
  exact_mod_cast h3
theorem lprod_map (a n : Nat) : ∀ l : List Nat, lprod (l.map fun x => a * x % n) % n = a ^ l.length * lprod l % n
  | [] => by simp [lprod]
  | x :: l => by
    simp only [List.map_cons, lprod, List.length_cons]
    rw [Nat.mul_mod, lprod_map a n l, Nat.mod_mod, ← Nat.mul_mod, Nat.pow_succ]
    congr 1
    rw [Nat.mul_assoc (a ^ l.length), Nat.mul_comm a x, Nat.mul_assoc x a, ← Nat.mul_assoc a, Nat.mul_comm a (a ^ l.length), ← Nat.mul_assoc x, Nat.mul_comm x (a ^ l.length * a)]
    rw [Nat.mul_assoc, Nat.mul_assoc]
/-- Euler: over a list of numbers that share just 1 with n, closed under times a -/
theorem euler {n a : Nat} {U : List Nat} (hn : U.Nodup) (hl : ∀ x ∈ U, x < n) (hx : ∀ x ∈ U, Nat.gcd x n = 1) (ha : Nat.gcd a n = 1) (hc : ∀ x ∈ U, a * x % n ∈ U) : a ^ U.length % n = 1 % n := by
  have p : (U.map fun x => a * x % n).Perm U := perm_map hn hc fun x h1 y h2 e => by
    have := cancel ha e
    rwa [Nat.mod_eq_of_lt (hl x h1), Nat.mod_eq_of_lt (hl y h2)] at this
  have e := lprod_map a n U
  rw [lprod_perm p] at e
  have e2 : lprod U * a ^ U.length % n = lprod U * 1 % n := by rw [Nat.mul_comm, ← e, Nat.mul_one]
  exact cancel (cop_lprod hx) e2
/-- Fermat -/
theorem fermat {p a : Nat} (hp : Pr p) (ha : ¬ p ∣ a) : a ^ (p - 1) % p = 1 := by
  have hp2 := hp.two
  have ga : Nat.gcd a p = 1 := by rw [Nat.gcd_comm]; exact hp.cop ha
  have h := euler (n := p) (a := a) (U := (List.range (p - 1)).map (· + 1)) (nodup_map List.nodup_range fun x _ y _ e => by omega)
    (fun x hx => by obtain ⟨y, hy, rfl⟩ := List.mem_map.mp hx; have := List.mem_range.mp hy; omega)
    (fun x hx => by
      obtain ⟨y, hy, rfl⟩ := List.mem_map.mp hx
      have := List.mem_range.mp hy
      rw [Nat.gcd_comm]
      exact hp.cop fun z => by have := Nat.le_of_dvd (by omega) z; omega) ga (fun x hx => by
      obtain ⟨y, hy, rfl⟩ := List.mem_map.mp hx
      have := List.mem_range.mp hy
      have hlt := Nat.mod_lt (a * (y + 1)) hp.pos
      have h0 : a * (y + 1) % p ≠ 0 := fun z => by
        rcases hp.dvd_mul (Nat.dvd_of_mod_eq_zero z) with e | e
        · exact ha e
        · have := Nat.le_of_dvd (by omega) e; omega
      exact List.mem_map.mpr ⟨a * (y + 1) % p - 1, List.mem_range.mpr (by omega), by omega⟩)
  rw [List.length_map, List.length_range, Nat.mod_eq_of_lt (show 1 < p by omega)] at h
  exact h
theorem fermat_int {p : Nat} (hp : Pr p) (a : Int) : a ^ p % (p : Int) = a % p := by
  have hpos : (0 : Int) < p := by have := hp.pos; omega
  rw [← PowN.mod_pow]
  obtain ⟨r, hr⟩ := Int.eq_ofNat_of_zero_le (Int.emod_nonneg a (show (p : Int) ≠ 0 by omega))
  rw [hr]
  have hlt : r < p := by have := Int.emod_lt_of_pos a hpos; omega
  have key : r ^ p % p = r := by
    by_cases h0 : r = 0
    · subst h0
      rw [Nat.zero_pow hp.pos, Nat.zero_mod]
    · have hnd : ¬ p ∣ r := fun z => by have := Nat.le_of_dvd (by omega) z; omega
      have e : p = (p - 1) + 1 := by have := hp.pos; omega
      have e2 : r ^ p = r ^ (p - 1) * r := by
        have := Nat.pow_succ (n := r) (m := p - 1)
        rwa [show (p - 1).succ = p by omega] at this
      rw [e2, Nat.mul_mod, fermat hp hnd, Nat.one_mul, Nat.mod_mod, Nat.mod_eq_of_lt hlt]
  have := congrArg (fun x : Nat => (x : Int)) key
  simpa using this
/-! ### powers, what undoes -/
theorem pow_mod_add (b : Int) (i j : Nat) (n : Int) : (b ^ i % n) * (b ^ j % n) % n = b ^ (i + j) % n := by rw [← Int.mul_emod, Int.pow_add]
theorem pow_mod_mul (a c : Int) (i : Nat) (n : Int) : (a ^ i % n) * (c ^ i % n) % n = (a * c) ^ i % n := by rw [← Int.mul_emod, Int.mul_pow]
theorem pow_mod_pow (a : Int) (i j : Nat) (n : Int) : (a ^ i % n) ^ j % n = (a ^ j % n) ^ i % n := by rw [PowN.mod_pow, PowN.mod_pow, ← Int.pow_mul, ← Int.pow_mul, Nat.mul_comm]
theorem und_uniq {a x y n : Int} (hn : 0 < n) (hx0 : 0 ≤ x) (hx : x < n) (hy0 : 0 ≤ y) (hy : y < n) (ex : x * a % n = 1 % n) (ey : y * a % n = 1 % n) : x = y := by
  have h : x % n = y % n := by
    have e1 : x * (y * a) % n = x % n := by rw [Int.mul_emod, ey, ← Int.mul_emod, Int.mul_one]
    have e2 : x * (y * a) % n = y % n := by
      rw [show x * (y * a) = y * (x * a) by rw [← Int.mul_assoc, Int.mul_comm x y, Int.mul_assoc], Int.mul_emod, ex, ← Int.mul_emod, Int.mul_one]
    rw [← e1, e2]
  rwa [Int.emod_eq_of_lt hx0 hx, Int.emod_eq_of_lt hy0 hy] at h
theorem und_pow {a x n : Int} (j : Nat) (ex : x * a % n = 1 % n) : (x ^ j % n) * (a ^ j % n) % n = 1 % n := by
  rw [← Int.mul_emod, ← Int.mul_pow, ← PowN.mod_pow, ex, PowN.mod_pow, Int.one_pow]
theorem und_gcd {a x n : Int} (ex : x * a % n = 1 % n) : Int.gcd a n = 1 := by
  have h := mod_iff.mp ex
  have h1 : ((Int.gcd a n : Nat) : Int) ∣ 1 := by
    have d1 : ((Int.gcd a n : Nat) : Int) ∣ x * a - 1 := Int.dvd_trans (Int.gcd_dvd_right a n) h
    have d2 : ((Int.gcd a n : Nat) : Int) ∣ x * a := Int.dvd_mul_of_dvd_right (Int.gcd_dvd_left a n)
    have := Int.dvd_sub d2 d1
    rwa [show x * a - (x * a - 1) = 1 by omega] at this
  have h2 : (Int.gcd a n) ∣ 1 := by exact_mod_cast h1
  exact Nat.dvd_one.mp h2
theorem take_snoc {α : Type} : ∀ {l : List α} {i : Nat} {x : α}, l[i]? = some x → l.take (i + 1) = l.take i ++ [x]
  | [], i, x, h => by simp at h
  | a :: l, 0, x, h => by
    simp only [List.getElem?_cons_zero, Option.some.injEq] at h
    subst h; rfl
  | a :: l, i + 1, x, h => by
    simp only [List.getElem?_cons_succ] at h
    rw [List.take_succ_cons, List.take_succ_cons, take_snoc h]; rfl
theorem pprod_take {l : List (Nat × Nat)} {i : Nat} {q : Nat × Nat} (h : l[i]? = some q) : pprod (l.take (i + 1)) = pprod (l.take i) * q.1 ^ q.2 := by
  rw [take_snoc h, pprod_app]; simp [pprod]
theorem pprod_take_le {l : List (Nat × Nat)} {n : Nat} (hn : 1 ≤ n) (h : Parts n l) (i : Nat) : pprod (l.take i) ≤ n := by
  have e : pprod (l.take i) * pprod (l.drop i) = n := by rw [← pprod_app, List.take_append_drop]; exact h.prod
  exact Nat.le_of_dvd hn ⟨_, e.symm⟩
/-- trial: is a number a prime -/
def pdiv (n d : Nat) : Nat → Bool
  | 0 => true
  | k + 1 => if n < d * d then true else if n % d = 0 then false else pdiv n (d + 1) k
theorem pdiv_ok {n : Nat} : ∀ (k d : Nat), pdiv n d k = true → n < (d + k) * (d + k) → (∀ q, 2 ≤ q → q < d → ¬ q ∣ n) → ∃ e, n < e * e ∧ ∀ q, 2 ≤ q → q < e → ¬ q ∣ n
  | 0, d, _, h2, h3 => ⟨d, h2, h3⟩
  | k + 1, d, h1, h2, h3 => by
    unfold pdiv at h1
    split at h1
    · exact ⟨d, by assumption, h3⟩
    · split at h1
      · cases h1
      · rename_i hnd
        refine pdiv_ok k (d + 1) h1 (by rwa [Nat.add_right_comm]) fun q h4 h5 hd => ?_
        by_cases e : q = d
        · subst e
          exact hnd (Nat.mod_eq_zero_of_dvd hd)
        · exact h3 q h4 (by omega) hd
theorem pr_by {n k : Nat} (h1 : 1 < n) (h : pdiv n 2 k = true) (h2 : n < (2 + k) * (2 + k)) : Pr n := by
  obtain ⟨e, h3, h4⟩ := pdiv_ok k 2 h h2 fun q a b => by omega
  exact pr_of_root h1 h3 h4
set_option maxRecDepth 100000 in
theorem pr_1000003 : Pr 1000003 := pr_by (k := 1000) (by decide) (by decide +kernel) (by decide)
end NT

end
section
set_option maxRecDepth 100000
namespace NT
/-! ### prime factors -/
theorem least_div (n : Nat) (h : 2 ≤ n) : ∃ p, Pr p ∧ p ∣ n := by
  have key : ∀ k d, 2 ≤ d → d + k = n → (∀ q, 2 ≤ q → q < d → ¬ q ∣ n) → ∃ p, Pr p ∧ p ∣ n := by
    intro k
    induction k with
    | zero =>
      intro d h1 h2 h3
      have e : d = n := by omega
      rw [e] at h3
      exact ⟨n, pr_of_least h (Nat.dvd_refl n) h3, Nat.dvd_refl n⟩
    | succ k ih =>
      intro d h1 h2 h3
      by_cases hd : d ∣ n
      · exact ⟨d, pr_of_least h1 hd h3, hd⟩
      · refine ih (d + 1) (by omega) (by omega) fun q a b => ?_
        by_cases e : q = d
        · rw [e]; exact hd
        · exact h3 q a (by omega)
  exact key (n - 2) 2 (Nat.le_refl 2) (by omega) fun q a b => by omega
/-! ### the count of rests, by its prime parts -/
def phi : List (Nat × Nat) → Nat
  | [] => 1
  | q :: r => q.1 ^ (q.2 - 1) * (q.1 - 1) * phi r
theorem phi_app : ∀ l r : List (Nat × Nat), phi (l ++ r) = phi l * phi r
  | [], r => by simp [phi]
  | q :: l, r => by simp only [List.cons_append, phi, phi_app l r, Nat.mul_assoc]
theorem phi_take {l : List (Nat × Nat)} {i : Nat} {q : Nat × Nat} (h : l[i]? = some q) : phi (l.take (i + 1)) = phi (l.take i) * (q.1 ^ (q.2 - 1) * (q.1 - 1)) := by
  rw [take_snoc h, phi_app]; simp [phi]
theorem phi_pos : ∀ {l : List (Nat × Nat)}, (∀ q ∈ l, Pr q.1 ∧ 1 ≤ q.2) → 1 ≤ phi l
  | [], _ => Nat.le_refl _
  | q :: l, h => by
    have h1 := phi_pos fun r hr => h r (List.mem_cons_of_mem _ hr)
    have h2 := (h q List.mem_cons_self).1.two
    exact Nat.mul_pos (Nat.mul_pos (Nat.pow_pos (by omega)) (by omega)) h1
theorem pow_pred {p e : Nat} (h : 1 ≤ e) : p ^ e = p ^ (e - 1) * p := by
  rw [← Nat.pow_succ]; congr 1; omega
theorem phi_le : ∀ {l : List (Nat × Nat)}, (∀ q ∈ l, Pr q.1 ∧ 1 ≤ q.2) → phi l ≤ pprod l
  | [], _ => Nat.le_refl _
  | q :: l, h => by
    have h1 := phi_le fun r hr => h r (List.mem_cons_of_mem _ hr)
    have h2 := h q List.mem_cons_self
    simp only [phi, pprod]
    rw [pow_pred h2.2]
    exact Nat.mul_le_mul (Nat.mul_le_mul_left _ (Nat.sub_le _ _)) h1
theorem drop_get {α : Type} : ∀ {l : List α} {i : Nat} {x : α}, l[i]? = some x → l.drop i = x :: l.drop (i + 1)
  | [], i, x, h => by simp at h
  | a :: l, 0, x, h => by
    simp only [List.getElem?_cons_zero, Option.some.injEq] at h
    subst h; rfl
  | a :: l, i + 1, x, h => by
    simp only [List.getElem?_cons_succ] at h
    simp only [List.drop_succ_cons]
    exact drop_get h
/-- what the loop over the parts holds -/
def phiAt (l : List (Nat × Nat)) (i : Nat) : Nat := phi (l.take i) * pprod (l.drop i)
theorem phiAt_zero (l : List (Nat × Nat)) : phiAt l 0 = pprod l := by simp [phiAt, phi]
theorem phiAt_end (l : List (Nat × Nat)) : phiAt l l.length = phi l := by simp [phiAt, pprod]
theorem phiAt_step {l : List (Nat × Nat)} {i : Nat} {q : Nat × Nat} (h : l[i]? = some q) (h2 : Pr q.1 ∧ 1 ≤ q.2) : phiAt l i / q.1 * (q.1 - 1) = phiAt l (i + 1) := by
  unfold phiAt
  rw [phi_take h, drop_get h]
  simp only [pprod]
  rw [pow_pred h2.2, show phi (l.take i) * (q.1 ^ (q.2 - 1) * q.1 * pprod (l.drop (i + 1))) = (phi (l.take i) * q.1 ^ (q.2 - 1) * pprod (l.drop (i + 1))) * q.1 by
    simp only [Nat.mul_assoc, Nat.mul_comm, Nat.mul_left_comm]]
  rw [Nat.mul_div_cancel _ h2.1.pos]
  simp only [Nat.mul_assoc, Nat.mul_comm, Nat.mul_left_comm]
theorem phiAt_le {l : List (Nat × Nat)} (h : ∀ q ∈ l, Pr q.1 ∧ 1 ≤ q.2) (i : Nat) : phiAt l i ≤ pprod l := by
  have h1 := phi_le (l := l.take i) fun q hq => h q (List.mem_of_mem_take hq)
  calc phiAt l i ≤ pprod (l.take i) * pprod (l.drop i) := Nat.mul_le_mul_right _ h1
    _ = pprod l := by rw [← pprod_app, List.take_append_drop]
theorem phiAt_pos {l : List (Nat × Nat)} (h : ∀ q ∈ l, Pr q.1 ∧ 1 ≤ q.2) (i : Nat) : 1 ≤ phiAt l i := by
  refine Nat.mul_pos (phi_pos fun q hq => h q (List.mem_of_mem_take hq)) (Nat.pos_of_ne_zero fun z => ?_)
  have e : pprod l = 0 := by rw [← List.take_append_drop i l, pprod_app, z, Nat.mul_zero]
  have := phi_le h
  have := phi_pos h
  omega
/-! ### Euler, by prime powers -/
theorem nat_dvd {n : Nat} {z : Int} : (n : Int) ∣ z ↔ n ∣ z.natAbs := by
  rw [← Int.natAbs_dvd_natAbs, Int.natAbs_natCast]
/-- 1 + y + .. -/
def geo (y : Int) : Nat → Int
  | 0 => 0
  | k + 1 => geo y k + y ^ k
theorem geo_mul (y : Int) : ∀ k, (y - 1) * geo y k = y ^ k - 1
  | 0 => by simp [geo]
  | k + 1 => by
    rw [geo, Int.mul_add, geo_mul y k, Int.pow_succ, Int.sub_mul, Int.one_mul, Int.mul_comm y]
    omega
theorem geo_mod {y m : Int} (h : m ∣ y - 1) : ∀ k : Nat, m ∣ geo y k - k
  | 0 => by simp [geo]
  | k + 1 => by
    have h1 := geo_mod h k
    have h2 : m ∣ y ^ k - 1 := by rw [← geo_mul]; exact Int.dvd_trans h (Int.dvd_mul_right _ _)
    have e : geo y (k + 1) - ((k + 1 : Nat) : Int) = (geo y k - k) + (y ^ k - 1) := by rw [geo]; omega
    rw [e]
    exact Int.dvd_add h1 h2
theorem lift {p : Nat} {y : Int} {m : Int} (hm : (p : Int) ∣ m) (h : m ∣ y - 1) : m * p ∣ y ^ p - 1 := by
  rw [← geo_mul]
  refine Int.mul_dvd_mul h ?_
  have h1 := geo_mod (Int.dvd_trans hm h) p
  have h2 := Int.dvd_add h1 (Int.dvd_refl (p : Int))
  have e : geo y p - (p : Int) + p = geo y p := by omega
  rwa [e] at h2
theorem fermat_dvd {p : Nat} (hp : Pr p) {x : Int} (hx : ¬ (p : Int) ∣ x) : (p : Int) ∣ x ^ (p - 1) - 1 := by
  have hpos : (0 : Int) < p := by have := hp.pos; omega
  obtain ⟨r, hr⟩ := Int.eq_ofNat_of_zero_le (Int.emod_nonneg x (show (p : Int) ≠ 0 by omega))
  have nd : ¬ p ∣ r := fun z => hx (by
    have : (p : Int) ∣ x % p := by rw [hr]; exact Int.natCast_dvd_natCast.mpr z
    have e := Int.emod_add_mul_ediv x p
    rw [← e]
    exact Int.dvd_add this (Int.dvd_mul_right _ _))
  have h := fermat hp nd
  refine mod_iff.mp ?_
  rw [← PowN.mod_pow, hr]
  have h1 : ((r ^ (p - 1) % p : Nat) : Int) = 1 := by rw [h]; rfl
  have h2 : (1 : Int) % p = 1 := Int.emod_eq_of_lt (by decide) (by have := hp.two; omega)
  rw [h2, ← h1]
  simp
theorem euler_pow {p : Nat} (hp : Pr p) {x : Int} (hx : ¬ (p : Int) ∣ x) : ∀ e : Nat, ((p ^ (e + 1) : Nat) : Int) ∣ x ^ (p ^ e * (p - 1)) - 1
  | 0 => by
    rw [Nat.pow_zero, Nat.one_mul, Nat.pow_one]
    exact fermat_dvd hp hx
  | e + 1 => by
    have h := euler_pow hp hx e
    have h1 := lift (p := p) (m := ((p ^ (e + 1) : Nat) : Int)) (by rw [Nat.pow_succ]; exact Int.natCast_dvd_natCast.mpr (Nat.dvd_mul_left _ _)) h
    rw [← Int.pow_mul] at h1
    have e1 : p ^ e * (p - 1) * p = p ^ (e + 1) * (p - 1) := by rw [Nat.pow_succ, Nat.mul_assoc, Nat.mul_assoc, Nat.mul_comm p]
    rw [e1] at h1
    have e2 : ((p ^ (e + 1 + 1) : Nat) : Int) = ((p ^ (e + 1) : Nat) : Int) * p := by rw [Nat.pow_succ (n := p) (m := e + 1)]; exact Int.natCast_mul _ _
    rw [e2]
    exact h1
theorem cop_pows {p q a b : Nat} (hp : Pr p) (hq : Pr q) (h : p ≠ q) : Nat.gcd (p ^ a) (q ^ b) = 1 :=
  Nat.Coprime.pow a b (show Nat.Coprime p q from hp.cop fun z => h (hp.eq_of_dvd hq z))
theorem cop_pprod {p a : Nat} (hp : Pr p) : ∀ {l : List (Nat × Nat)}, (∀ q ∈ l, Pr q.1 ∧ p ≠ q.1) → Nat.gcd (p ^ a) (pprod l) = 1
  | [], _ => Nat.gcd_one_right _
  | q :: l, h => Nat.Coprime.mul_right (show Nat.Coprime (p ^ a) (q.1 ^ q.2) from cop_pows hp (h q List.mem_cons_self).1 (h q List.mem_cons_self).2) (cop_pprod hp fun r hr => h r (List.mem_cons_of_mem _ hr))
/-- each prime power goes, so the product goes -/
theorem pprod_dvd {z : Int} : ∀ {l : List (Nat × Nat)}, (∀ q ∈ l, Pr q.1) → (l.Pairwise fun a b => a.1 < b.1) → (∀ q ∈ l, ((q.1 ^ q.2 : Nat) : Int) ∣ z) → ((pprod l : Nat) : Int) ∣ z
  | [], _, _, _ => Int.one_dvd _
  | q :: l, h1, h2, h3 => by
    have h4 := List.pairwise_cons.mp h2
    have ih := pprod_dvd (fun r hr => h1 r (List.mem_cons_of_mem _ hr)) h4.2 fun r hr => h3 r (List.mem_cons_of_mem _ hr)
    have c : Nat.gcd (q.1 ^ q.2) (pprod l) = 1 := cop_pprod (h1 q List.mem_cons_self) fun r hr => ⟨h1 r (List.mem_cons_of_mem _ hr), Nat.ne_of_lt (h4.1 r hr)⟩
    have d1 := nat_dvd.mp (h3 q List.mem_cons_self)
    have d2 := nat_dvd.mp ih
    exact nat_dvd.mpr (Nat.Coprime.mul_dvd_of_dvd_of_dvd c d1 d2)
theorem phi_dvd : ∀ {l : List (Nat × Nat)} {q : Nat × Nat}, q ∈ l → q.1 ^ (q.2 - 1) * (q.1 - 1) ∣ phi l
  | a :: l, q, h => by
    rcases List.mem_cons.mp h with e | e
    · subst e; exact Nat.dvd_mul_right _ _
    · exact Nat.dvd_trans (phi_dvd e) (Nat.dvd_mul_left _ _)
theorem pow_dvd_one {x m : Int} {a b : Nat} (h : m ∣ x ^ a - 1) (hab : a ∣ b) : m ∣ x ^ b - 1 := by
  obtain ⟨c, rfl⟩ := hab
  rw [Int.pow_mul, ← geo_mul]
  exact Int.dvd_trans h (Int.dvd_mul_right _ _)
theorem euler_parts {n : Nat} {l : List (Nat × Nat)} (h : Parts n l) {x : Int} (hx : Int.gcd x n = 1) : x ^ phi l % (n : Int) = 1 % n := by
  refine mod_iff.mpr ?_
  rw [← h.prod]
  refine pprod_dvd (fun q hq => (h.pr q hq).1) h.up fun q hq => ?_
  obtain ⟨hp, he⟩ := h.pr q hq
  have nd : ¬ (q.1 : Int) ∣ x := fun z => by
    have d1 : q.1 ∣ n := by
      rw [← h.prod]
      refine Nat.dvd_trans ?_ (mem_dvd hq)
      exact Nat.dvd_trans (by rw [Nat.pow_one]; exact Nat.dvd_refl _) (Nat.pow_dvd_pow q.1 he)
    have d2 : q.1 ∣ Int.gcd x n := Nat.dvd_gcd (nat_dvd.mp z) (by simpa using d1)
    rw [hx] at d2
    have := Nat.le_of_dvd (by decide) d2
    have := hp.two
    omega
  have h1 := euler_pow hp nd (q.2 - 1)
  rw [show q.2 - 1 + 1 = q.2 by omega] at h1
  exact pow_dvd_one h1 (phi_dvd hq)
theorem part_le {n : Nat} {l : List (Nat × Nat)} (hn : 1 ≤ n) (h : Parts n l) {q : Nat × Nat} (hq : q ∈ l) : q.1 ≤ n ∧ q.1 ^ q.2 ≤ n := by
  have hqp := h.pr q hq
  have h1 := mem_dvd hq
  rw [h.prod] at h1
  have h2 : q.1 ∣ q.1 ^ q.2 := by
    have := Nat.pow_dvd_pow q.1 hqp.2
    rwa [Nat.pow_one] at this
  exact ⟨Nat.le_of_dvd hn (Nat.dvd_trans h2 h1), Nat.le_of_dvd hn h1⟩
/-! ### orders -/
structure Ord (x n : Int) (m : Nat) : Prop where
  pos : 0 < m
  one : x ^ m % n = 1 % n
  least : ∀ j, 0 < j → j < m → x ^ j % n ≠ 1 % n
theorem pow_mul_one {x n : Int} {a : Nat} (h : x ^ a % n = 1 % n) (c : Nat) : x ^ (a * c) % n = 1 % n := mod_iff.mpr (pow_dvd_one (mod_iff.mp h) (Nat.dvd_mul_right _ _))
theorem pow_add_one {x n : Int} {a : Nat} (h : x ^ a % n = 1 % n) (c : Nat) : x ^ (a + c) % n = x ^ c % n := by
  rw [Int.pow_add, Int.mul_emod, h, ← Int.mul_emod, Int.one_mul]
theorem Ord.ex {x n : Int} {m : Nat} (hp : 0 < m) (h : x ^ m % n = 1 % n) : ∃ d, Ord x n d ∧ d ≤ m := by
  have key : ∀ k d, 0 < d → d + k = m → (∀ j, 0 < j → j < d → x ^ j % n ≠ 1 % n) → ∃ d, Ord x n d ∧ d ≤ m := by
    intro k
    induction k with
    | zero =>
      intro d h1 h2 h3
      have : d = m := by omega
      subst this
      exact ⟨d, ⟨h1, h, h3⟩, Nat.le_refl _⟩
    | succ k ih =>
      intro d h1 h2 h3
      by_cases hd : x ^ d % n = 1 % n
      · exact ⟨d, ⟨h1, hd, h3⟩, by omega⟩
      · refine ih (d + 1) (by omega) (by omega) fun j a b => ?_
        by_cases e : j = d
        · rw [e]; exact hd
        · exact h3 j a (by omega)
  exact key (m - 1) 1 (by decide) (by omega) fun j a b => by omega
theorem Ord.dvd {x n : Int} {d m : Nat} (o : Ord x n d) (h : x ^ m % n = 1 % n) : d ∣ m := by
  have e := Nat.div_add_mod m d
  have h1 : x ^ (m % d) % n = 1 % n := by
    rw [← pow_add_one (pow_mul_one o.one (m / d)) (m % d), e]
    exact h
  have h2 := Nat.mod_lt m o.pos
  rcases Nat.eq_zero_or_pos (m % d) with z | z
  · exact Nat.dvd_of_mod_eq_zero z
  · exact absurd h1 (o.least _ z h2)
theorem Ord.of_primes {x n : Int} {f : Nat} (hf : 0 < f) (h : x ^ f % n = 1 % n) (hp : ∀ p, Pr p → p ∣ f → x ^ (f / p) % n ≠ 1 % n) : Ord x n f := by
  obtain ⟨d, o, hd⟩ := Ord.ex hf h
  obtain ⟨k, hk⟩ := o.dvd h
  have dpos := o.pos
  by_cases h1 : k = 1
  · rw [h1, Nat.mul_one] at hk
    rw [hk]; exact o
  · have k2 : 2 ≤ k := by
      rcases Nat.eq_zero_or_pos k with z | z
      · rw [z, Nat.mul_zero] at hk; omega
      · omega
    obtain ⟨p, pp, c, hc⟩ := least_div k k2
    refine absurd ?_ (hp p pp ⟨d * c, by rw [hk, hc, Nat.mul_left_comm]⟩)
    have e : f / p = d * c := by
      rw [hk, hc, Nat.mul_left_comm]
      exact Nat.mul_div_cancel_left _ pp.pos
    rw [e]
    exact pow_mul_one o.one c
theorem Ord.uniq {x n : Int} {a b : Nat} (h : Ord x n a) (h' : Ord x n b) : a = b := Nat.dvd_antisymm (h.dvd h'.one) (h'.dvd h.one)
theorem Ord.gcd {x n : Int} {m : Nat} (o : Ord x n m) : Int.gcd x n = 1 := by
  refine und_gcd (x := x ^ (m - 1)) ?_
  rw [← Int.pow_succ, show (m - 1).succ = m by have := o.pos; omega]
  exact o.one
/-! ### small numbers in parts, by trial -/
def mult (p : Nat) : Nat → Nat → Nat × Nat
  | 0, L => (0, L)
  | k + 1, L => if L % p = 0 then ((mult p k (L / p)).1 + 1, (mult p k (L / p)).2) else (0, L)
def facL : Nat → Nat → Nat → List (Nat × Nat)
  | 0, _, _ => []
  | k + 1, d, L => if L ≤ 1 then [] else if L < d * d then [(L, 1)] else if L % d = 0 then (d, (mult d 40 L).1) :: facL k (d + 1) (mult d 40 L).2 else facL k (d + 1) L
def upB : List (Nat × Nat) → Bool
  | [] => true
  | q :: l => l.all (fun r => decide (q.1 < r.1)) && upB l
theorem upB_ok : ∀ {l : List (Nat × Nat)}, upB l = true → l.Pairwise fun a b => a.1 < b.1
  | [], _ => .nil
  | q :: l, h => by
    simp only [upB, Bool.and_eq_true, List.all_eq_true, decide_eq_true_eq] at h
    exact .cons h.1 (upB_ok h.2)
def partsB (f n : Nat) (l : List (Nat × Nat)) : Bool := l.all (fun q => decide (1 < q.1) && decide (1 ≤ q.2) && pdiv q.1 2 f && decide (q.1 < (2 + f) * (2 + f))) && upB l && decide (pprod l = n)
theorem parts_of {f n : Nat} {l : List (Nat × Nat)} (h : partsB f n l = true) : Parts n l := by
  simp only [partsB, Bool.and_eq_true, List.all_eq_true, decide_eq_true_eq] at h
  exact ⟨fun q hq => ⟨pr_by (h.1.1 q hq).1.1.1 (h.1.1 q hq).1.2 (h.1.1 q hq).2, (h.1.1 q hq).1.1.2⟩, upB_ok h.1.2, h.2⟩
/-- how many of 1 .. i have no part with n -/
def cop (n : Nat) : Nat → Nat
  | 0 => 0
  | i + 1 => cop n i + if Nat.gcd (i + 1) n = 1 then 1 else 0
theorem cop_le (n : Nat) : ∀ i, cop n i ≤ i
  | 0 => Nat.le_refl _
  | i + 1 => by
    have := cop_le n i
    simp only [cop]
    split <;> omega
def smallB (n : Nat) : Bool := partsB 30 n (facL 40 2 n) && decide (phi (facL 40 2 n) = cop n n)
theorem small_all : (List.range 400).all (fun i => smallB (i + 1)) = true := by decide +kernel
theorem small_of {n : Nat} (h1 : 1 ≤ n) (h2 : n ≤ 400) : Parts n (facL 40 2 n) ∧ phi (facL 40 2 n) = cop n n := by
  have h := List.all_eq_true.mp small_all (n - 1) (List.mem_range.mpr (by omega))
  rw [show n - 1 + 1 = n by omega] at h
  simp only [smallB, Bool.and_eq_true, decide_eq_true_eq] at h
  exact ⟨parts_of h.1, h.2⟩
theorem small_phi {n : Nat} (h1 : 1 ≤ n) (h2 : n ≤ 400) {l : List (Nat × Nat)} (h : Parts n l) : phi l = cop n n := by
  rw [h.uniq (small_of h1 h2).1]
  exact (small_of h1 h2).2
theorem small_ord {n : Nat} (h1 : 1 ≤ n) (h2 : n ≤ 400) {x : Int} (g : Int.gcd x n = 1) : ∃ m, Ord x n m ∧ m ≤ n := by
  have p := (small_of h1 h2).1
  have h3 := phi_le p.pr
  rw [p.prod] at h3
  obtain ⟨d, hd, h4⟩ := Ord.ex (phi_pos p.pr) (euler_parts p g)
  exact ⟨d, hd, Nat.le_trans h4 h3⟩
end NT

end
section
set_option maxRecDepth 100000
open PySem L2 NT
namespace My
end My
namespace L2
/-! ### data -/
theorem Dp.int_inv {K : PySem.W.Frag} {H : Hp} {v : V} {i : Int} (h : Dp K H v (.int i)) : v = .int i := by cases h; rfl
theorem seqT_same {K : PySem.W.Frag} {H H' : Hp} {a : Addr} {xs : List V} (e : Same H H') (h : SqT K H a xs) : SqT K H' a xs := by
  rcases h with (h | ⟨o, h⟩) | h
  · exact .inl (.inl (e _ _ h))
  · exact .inl (.inr ⟨o, e _ _ h⟩)
  · exact .inr h
mutual
theorem Dp.ext {K : PySem.W.Frag} {H H' : Hp} (e : Same H H') : ∀ {d : PyData} {v : V}, Dp K H v d → Dp K H' v d
  | _, _, .non => .non
  | _, _, .bl b => .bl b
  | _, _, .int i => .int i
  | _, _, .str x => .str x
  | _, _, .lst h k => .lst (e.seq h) (DpAll.ext e k)
  | _, _, .tup h k => .tup (seqT_same e h) (DpAll.ext e k)
theorem DpAll.ext {K : PySem.W.Frag} {H H' : Hp} (e : Same H H') : ∀ {ds : List PyData} {vs : List V}, DpAll K H vs ds → DpAll K H' vs ds
  | _, _, .nil => .nil
  | _, _, .cons h k => .cons (Dp.ext e h) (DpAll.ext e k)
end
theorem DpAll.len {K : PySem.W.Frag} {H : Hp} : ∀ {vs : List V} {ds : List PyData}, DpAll K H vs ds → vs.length = ds.length
  | _, _, .nil => rfl
  | _, _, .cons _ k => by rw [List.length_cons, List.length_cons, DpAll.len k]
theorem DpAll.get {K : PySem.W.Frag} {H : Hp} : ∀ {vs : List V} {ds : List PyData}, DpAll K H vs ds → ∀ {i : Nat} {v : V}, vs[i]? = some v → ∃ d, ds[i]? = some d ∧ Dp K H v d
  | _, _, .nil, i, v, h => by simp at h
  | _, _, .cons h k, 0, v, e => by
    simp only [List.getElem?_cons_zero, Option.some.injEq] at e
    subst e
    exact ⟨_, rfl, h⟩
  | _, _, .cons h k, i + 1, v, e => by
    simp only [List.getElem?_cons_succ] at e ⊢
    exact DpAll.get k e
theorem DpAll.snoc {K : PySem.W.Frag} {H : Hp} {v : V} {d : PyData} (hd : Dp K H v d) : ∀ {vs : List V} {ds : List PyData}, DpAll K H vs ds → DpAll K H (vs ++ [v]) (ds ++ [d])
  | _, _, .nil => .cons hd .nil
  | _, _, .cons h k => .cons h (DpAll.snoc hd k)
end L2
namespace My
/-! ### data without lists -/
mutual
def noL : PyData → Bool
  | .list _ | .dict _ => false
  | .tuple ds => noLs ds
  | .none | .bool _ | .int _ | .str _ => true
def noLs : List PyData → Bool
  | [] => true
  | d :: ds => noL d && noLs ds
end
end My
namespace L2
open My
theorem seqT_nl {K : PySem.W.Frag} {H H' : Hp} {a : Addr} {xs : List V} (e : NL H H') (h : SqT K H a xs) : SqT K H' a xs := by
  rcases h with (h | ⟨o, h⟩) | h
  · exact .inl (.inl (e _ _ h fun _ z => by cases z))
  · exact .inl (.inr ⟨o, e _ _ h fun _ z => by cases z⟩)
  · exact .inr h
mutual
theorem Dp.nl {K : PySem.W.Frag} {H H' : Hp} (e : NL H H') : ∀ {d : PyData} {v : V}, noL d = true → Dp K H v d → Dp K H' v d
  | _, _, _, .non => .non
  | _, _, _, .bl b => .bl b
  | _, _, _, .int i => .int i
  | _, _, _, .str x => .str x
  | _, _, n, .lst h k => by cases n
  | _, _, n, .tup h k => .tup (seqT_nl e h) (DpAll.nl e n k)
theorem DpAll.nl {K : PySem.W.Frag} {H H' : Hp} (e : NL H H') : ∀ {ds : List PyData} {vs : List V}, noLs ds = true → DpAll K H vs ds → DpAll K H' vs ds
  | _, _, _, .nil => .nil
  | _, _, n, .cons h k => .cons (Dp.nl e (Bool.and_eq_true_iff.mp n).1 h) (DpAll.nl e (Bool.and_eq_true_iff.mp n).2 k)
end
end L2
namespace My
def pairD (q : Nat × Nat) : PyData := .tuple [.int q.1, .int q.2]
def partsT (l : List (Nat × Nat)) : PyData := .tuple (l.map pairD)
def partsL (l : List (Nat × Nat)) : PyData := .list (l.map pairD)
theorem pair_inv {K : PySem.W.Frag} {H : Hp} {v : V} {q : Nat × Nat} (h : Dp K H v (pairD q)) : ∃ a, v = .ref a ∧ SqT K H a [.int q.1, .int q.2] := by
  cases h with
  | tup h k =>
    cases k with
    | cons h1 k1 =>
      cases k1 with
      | cons h2 k2 =>
        cases k2
        cases h1; cases h2
        exact ⟨_, rfl, h⟩
theorem pair_dp {K : PySem.W.Frag} {H : Hp} {a : Addr} {p e : Int} {q : Nat × Nat} (h : SqT K H a [.int p, .int e]) (e1 : p = q.1) (e2 : e = q.2) : Dp K H (.ref a) (pairD q) := by
  subst e1 e2
  exact .tup h (.cons (.int _) (.cons (.int _) .nil))
theorem partsT_inv {K : PySem.W.Frag} {H : Hp} {v : V} {l : List (Nat × Nat)} (h : Dp K H v (partsT l)) : ∃ a xs, v = .ref a ∧ SqT K H a xs ∧ DpAll K H xs (l.map pairD) := by
  cases h with
  | tup h k => exact ⟨_, _, rfl, h, k⟩
theorem partsL_inv {K : PySem.W.Frag} {H : Hp} {v : V} {l : List (Nat × Nat)} (h : Dp K H v (partsL l)) : ∃ a xs, v = .ref a ∧ SqL K H a xs ∧ DpAll K H xs (l.map pairD) := by
  cases h with
  | lst h k => exact ⟨_, _, rfl, h, k⟩
theorem eqv_pair (q r : Nat × Nat) : PyData.eqv (pairD q) (pairD r) = decide (q = r) := by
  have e1 : ((q.1 : Int) == (r.1 : Int)) = decide (q.1 = r.1) := by
    by_cases h : q.1 = r.1
    · simp [h]
    · have : ¬ (q.1 : Int) = r.1 := by omega
      simp [h, this]
  have e2 : ((q.2 : Int) == (r.2 : Int)) = decide (q.2 = r.2) := by
    by_cases h : q.2 = r.2
    · simp [h]
    · have : ¬ (q.2 : Int) = r.2 := by omega
      simp [h, this]
  simp only [pairD, PyData.eqv, PyData.eqvAll, Bool.and_true, e1, e2]
  rw [← Bool.decide_and]
  congr 1
  exact propext ⟨fun h => Prod.ext h.1 h.2, fun h => by subst h; exact ⟨rfl, rfl⟩⟩
theorem eqvAll_pairs : ∀ l r : List (Nat × Nat), PyData.eqvAll (l.map pairD) (r.map pairD) = decide (l = r)
  | [], [] => rfl
  | [], _ :: _ => rfl
  | _ :: _, [] => rfl
  | q :: l, s :: r => by
    simp only [List.map_cons, PyData.eqvAll, eqv_pair, eqvAll_pairs l r]
    rw [← Bool.decide_and]
    congr 1
    exact propext ⟨fun h => by rw [h.1, h.2], fun h => by injection h with a b; exact ⟨a, b⟩⟩
theorem eqv_partsT (l r : List (Nat × Nat)) : PyData.eqv (partsT l) (partsT r) = decide (l = r) := by simp only [partsT, PyData.eqv, eqvAll_pairs]
theorem eqv_partsL (l r : List (Nat × Nat)) : PyData.eqv (partsL l) (partsL r) = decide (l = r) := by simp only [partsL, PyData.eqv, eqvAll_pairs]
theorem noL_pairs : ∀ l : List (Nat × Nat), noLs (l.map pairD) = true
  | [] => rfl
  | q :: l => by simp only [List.map_cons, noLs, noL_pairs l, Bool.and_true]; rfl
theorem noL_partsT (l : List (Nat × Nat)) : noL (partsT l) = true := noL_pairs l
theorem lay_pairs : ∀ l : List (Nat × Nat), PyData.canLayAll0 (l.map pairD) = true
  | [] => rfl
  | q :: l => by
    simp only [List.map_cons, PyData.canLayAll0, lay_pairs l, pairD, PyData.canLay0, Bool.and_true]
theorem depth_pairs : ∀ l : List (Nat × Nat), PyData.depthAll (l.map pairD) ≤ 1
  | [] => by simp only [List.map_nil, PyData.depthAll]; omega
  | q :: l => by
    have := depth_pairs l
    simp only [List.map_cons, PyData.depthAll, pairD, PyData.depth]
    omega
theorem shaped_partsT (l : List (Nat × Nat)) : SeqAt.shaped (partsT l) = true := by
  have := depth_pairs l
  simp only [SeqAt.shaped, partsT, PyData.canLay0, lay_pairs, PyData.depth, Bool.true_and]
  exact decide_eq_true (by omega)
theorem shaped_partsL (l : List (Nat × Nat)) : SeqAt.shaped (partsL l) = true := by
  have := depth_pairs l
  simp only [SeqAt.shaped, partsL, PyData.canLay0, lay_pairs, PyData.depth, Bool.true_and]
  exact decide_eq_true (by omega)
/-! ### the promises: rests, parts -/
abbrev BIG : Int := 1000000000000000000000000000000
def Kd (K : PySem.W.Frag) (H : Hp) (v : V) : Prop := ∃ t, Ty K H v t
def spIsWhole (K : PySem.W.Frag) : Sp := fun vs H Q _ => ∃ v, vs = [v] ∧ Kd K H v ∧ Q (.bl (isI v)) H
def spIsBetween (K : PySem.W.Frag) : Sp := fun vs H Q _ => ∃ v lo hi, vs = [v, .int lo, .int hi] ∧ Kd K H v ∧ Q (.bl (inR v lo hi)) H
def spNeed (K : PySem.W.Frag) (er : String → Addr) : Sp := fun vs H Q E => ∃ v lo hi, vs = [v, .int lo, .int hi] ∧ Kd K H v ∧ (inR v lo hi = true → Q .non H) ∧ (inR v lo hi = false → E (.ref (er "NoNumber")) none H)
def spNeed1 (K : PySem.W.Frag) (er : String → Addr) (lo hi : Int) : Sp := fun vs H Q E => ∃ v, vs = [v] ∧ Kd K H v ∧ (inR v lo hi = true → Q .non H) ∧ (inR v lo hi = false → E (.ref (er "NoNumber")) none H)
def spPow : Sp := fun vs H Q _ => ∃ b o n : Int, vs = [.int b, .int o, .int n] ∧ 0 ≤ o ∧ 0 < n ∧ n < 2 ^ 200 ∧ Q (.int (b ^ o.toNat % n)) H
def spRaised (K : PySem.W.Frag) (er : String → Addr) : Sp := fun vs H Q E => ∃ vb vo vn, vs = [vb, vo, vn] ∧ Kd K H vb ∧ Kd K H vo ∧ Kd K H vn ∧
  (∀ b o n : Int, vb = .int b → vo = .int o → vn = .int n → -BIG ≤ b → b ≤ BIG → 0 ≤ o → o ≤ BIG → 1 ≤ n → n ≤ BIG → Q (.int (b ^ o.toNat % n)) H) ∧
  ((inR vb (-BIG) BIG && inR vo 0 BIG && inR vn 1 BIG) = false → E (.ref (er "NoNumber")) none H)
def spCommon : Sp := fun vs H Q _ => ∃ a b : Int, vs = [.int a, .int b] ∧ Q (.int (Int.gcd a b : Nat)) H
def spShared (K : PySem.W.Frag) (er : String → Addr) : Sp := fun vs H Q E => ∃ va vb, vs = [va, vb] ∧ Kd K H va ∧ Kd K H vb ∧
  (∀ a b : Int, va = .int a → vb = .int b → -BIG ≤ a → a ≤ BIG → -BIG ≤ b → b ≤ BIG → Q (.int (Int.gcd a b : Nat)) H) ∧
  ((inR va (-BIG) BIG && inR vb (-BIG) BIG) = false → E (.ref (er "NoNumber")) none H)
/-- what undoes a by n, or None -/
def Und (a n : Int) (Q : V → Prop) : Prop := (Int.gcd a n ≠ 1 → Q .non) ∧ (Int.gcd a n = 1 → ∀ x : Int, 0 ≤ x → x < n → (x * a) % n = 1 % n → Q (.int x))
def spUndoneBy : Sp := fun vs H Q _ => ∃ a n : Int, vs = [.int a, .int n] ∧ 1 ≤ n ∧ n < 2 ^ 200 ∧ Und a n fun v => ∀ H', Same H H' → Q v H'
def spUndone (K : PySem.W.Frag) (er : String → Addr) : Sp := fun vs H Q E => ∃ va vn, vs = [va, vn] ∧ Kd K H va ∧ Kd K H vn ∧
  (∀ a n : Int, va = .int a → vn = .int n → -BIG ≤ a → a ≤ BIG → 1 ≤ n → n ≤ BIG → Und a n fun v => ∀ H', Same H H' → Q v H') ∧
  ((inR va (-BIG) BIG && inR vn 1 BIG) = false → E (.ref (er "NoNumber")) none H)
def spParts (K : PySem.W.Frag) : Sp := fun vs H Q _ => ∃ n : Nat, vs = [.int n] ∧ 1 ≤ n ∧ n ≤ 10 ^ 31 ∧ ∀ l v H', Parts n l → Same H H' → Dp K H' v (partsT l) → Q v H'
def spToldPrime : Sp := fun vs H Q _ => ∃ n : Nat, vs = [.int n] ∧ n ≤ 10 ^ 31 ∧ ∀ b H', (b = true ↔ Pr n) → Same H H' → Q (.bl b) H'
def spIsPrime (K : PySem.W.Frag) (er : String → Addr) : Sp := fun vs H Q E => ∃ v, vs = [v] ∧ Kd K H v ∧ (∀ n : Nat, v = .int n → n ≤ 10 ^ 9 → ∀ b H', (b = true ↔ Pr n) → Same H H' → Q (.bl b) H') ∧ (inR v 0 (10 ^ 9) = false → E (.ref (er "NoNumber")) none H)
def spPartsOf (K : PySem.W.Frag) (er : String → Addr) : Sp := fun vs H Q E => ∃ v, vs = [v] ∧ Kd K H v ∧ (∀ n : Nat, v = .int n → 1 ≤ n → n ≤ 10 ^ 9 → ∀ l v H', Parts n l → Same H H' → Dp K H' v (partsT l) → Q v H') ∧ (inR v 1 (10 ^ 9) = false → E (.ref (er "NoNumber")) none H)
/-! ### the promises: the laws' own -/
def spCellAt (K : PySem.W.Frag) : Sp := fun vs H Q _ => ∃ (a : Addr) (ns : List Int) (k : Nat), vs = [.ref a, .int k] ∧ SqL K H a (ns.map V.int) ∧ ∀ z : Int, Q (.int z) H
def spState (K : PySem.W.Frag) : Sp := fun vs H Q _ => ∃ (a : Addr) (ns : List Int) (k : Nat), vs = [.ref a, .int k] ∧ SqL K H a (ns.map V.int) ∧ ∀ p H', H p = none → Same H H' → StAt H' p → Q (.ref p) H'
def spTake : Sp := fun vs H Q _ => ∃ (a : Addr) (m : Int), vs = [.ref a, .int m] ∧ StAt H a ∧ 0 < m ∧ m < 2 ^ 200 ∧ ∀ r H', 0 ≤ r → r < m → Draw a H H' → Q (.int r) H'
def spDraw1 (lo hi : Int) : Sp := fun vs H Q _ => ∃ (a : Addr), vs = [.ref a] ∧ StAt H a ∧ ∀ r H', lo ≤ r → r ≤ hi → Draw a H H' → Q (.int r) H'
def spPartsLaw (K : PySem.W.Frag) : Sp := fun vs H Q _ => ∃ n : Nat, vs = [.int n] ∧ 1 ≤ n ∧ n ≤ 10 ^ 31 ∧ ∀ l v H', Parts n l → Same H H' → Dp K H' v (partsL l) → Q v H'
def spPrimeLaw : Sp := fun vs H Q _ => ∃ (a : Addr) (m : Int) (top : Nat), vs = [.ref a, .int m] ∧ StAt H a ∧ 0 < m ∧ Pr top ∧ m + 1 ≤ top ∧ top ≤ 10 ^ 10 ∧ ∀ (p : Nat) H', Pr p → p ≤ top → Draw a H H' → Q (.int p) H'
def spLaw (K : PySem.W.Frag) : Sp := fun vs H Q _ => ∃ (a : Addr) (ns : List Int), vs = [.ref a] ∧ SqL K H a (ns.map V.int) ∧ ns.length ≤ 63 ∧ ∀ H', Q (.bl true) H'
end My

end
section
set_option maxRecDepth 100000
open PySem L2 NT
namespace My
/-! ### calls that are known to be answered -/
section
variable {K : PySem.W.Frag} {er : String → Addr} {H : Hp} {Q : VK} {E : XK}
theorem kI (i : Int) : Kd K H (.int i) := ⟨_, .int i⟩
theorem nR {i lo hi : Int} {p : Prop} (h1 : lo ≤ i) (h2 : i ≤ hi) : inR (.int i) lo hi = false → p := fun z => by
  rw [inR_ok h1 h2] at z; cases z
theorem okRaised {b o n : Int} (b1 : -BIG ≤ b) (b2 : b ≤ BIG) (o1 : 0 ≤ o) (o2 : o ≤ BIG) (n1 : 1 ≤ n) (n2 : n ≤ BIG) (q : Q (.int (b ^ o.toNat % n)) H) : spRaised K er [.int b, .int o, .int n] H Q E :=
  ⟨_, _, _, rfl, kI _, kI _, kI _, fun b' o' n' e1 e2 e3 _ _ _ _ _ _ => by cases e1; cases e2; cases e3; exact q, fun z => by
    rw [inR_ok b1 b2, inR_ok o1 o2, inR_ok n1 n2] at z; cases z⟩
theorem okShared {a b : Int} (a1 : -BIG ≤ a) (a2 : a ≤ BIG) (b1 : -BIG ≤ b) (b2 : b ≤ BIG) (q : Q (.int (Int.gcd a b : Nat)) H) : spShared K er [.int a, .int b] H Q E :=
  ⟨_, _, rfl, kI _, kI _, fun a' b' e1 e2 _ _ _ _ => by cases e1; cases e2; exact q, fun z => by
    rw [inR_ok a1 a2, inR_ok b1 b2] at z; cases z⟩
theorem okUndone {a n : Int} (a1 : -BIG ≤ a) (a2 : a ≤ BIG) (n1 : 1 ≤ n) (n2 : n ≤ BIG) (q : Und a n fun v => ∀ H', Same H H' → Q v H') : spUndone K er [.int a, .int n] H Q E :=
  ⟨_, _, rfl, kI _, kI _, fun a' b' e1 e2 _ _ _ _ => by cases e1; cases e2; exact q, fun z => by
    rw [inR_ok a1 a2, inR_ok n1 n2] at z; cases z⟩
theorem okIsPrime {n : Nat} (h : n ≤ 10 ^ 9) (q : ∀ b H', (b = true ↔ Pr n) → Same H H' → Q (.bl b) H') : spIsPrime K er [.int n] H Q E :=
  ⟨_, rfl, kI _, fun m e _ => by
    have : n = m := by have := V.int.inj e; omega
    subst this; exact q, nR (by omega) (by omega)⟩
theorem okPartsOf {n : Nat} (h1 : 1 ≤ n) (h : n ≤ 10 ^ 9) (q : ∀ l v H', Parts n l → Same H H' → Dp K H' v (partsT l) → Q v H') : spPartsOf K er [.int n] H Q E :=
  ⟨_, rfl, kI _, fun m e _ _ => by
    have : n = m := by have := V.int.inj e; omega
    subst this; exact q, nR (by omega) (by omega)⟩
end
end My
namespace L2
open My
theorem Same.draw {a : Addr} {H H1 H2 : Hp} (s : Same H H1) (h : H a = none) (D : Draw a H1 H2) : Same H H2 := fun b o e => D.2 b o (s b o e) (ne_of_none e h)
end L2
namespace My
/-! ### the laws' outermost loop -/
def rMax2 : List V → Hp → VK → Prop := fun xs H Q => ∃ i j, xs = [.int i, .int j] ∧ Q (.int (if j > i then j else i)) H
def rMin2 : List V → Hp → VK → Prop := fun xs H Q => ∃ i j, xs = [.int i, .int j] ∧ Q (.int (if j < i then j else i)) H
def rLenQ (K : PySem.W.Frag) : List V → Hp → VK → Prop := fun xs H Q => ∃ p ys, xs = [.ref p] ∧ (SqL K H p ys ∨ SqT K H p ys) ∧ Q (.int ys.length) H
theorem lawFor {K : PySem.W.Frag} {c : Int} {g : TG} {tb : TS} {D : Ends} {σ : L2.St} {H : Hp} {a : Addr} {xs : List V} (Pv : Nat → L2.St → Hp → Prop) (hS : SqL K H a xs) (hσ : σ[0]? = some (some (.ref a))) (hx : xs.length ≤ 1000) (hc : 0 ≤ c) (hc2 : c ≤ 1000) (h0 : Pv 0 σ H)
    (hs : ∀ (i : Nat) σ H, Pv i σ H → g (.int i) σ H fun σ2 H2 => tb { D with nx := Pv (i + 1), ct := Pv (i + 1), bk := D.nx } σ2 H2) (hd : ∀ i σ H, Pv i σ H → D.nx σ H) :
    tFor (iRng1 (tCons (tCB rMax2 (tCons (tC (V.int 1)) (tCons (tCB rMin2 (tCons (tCB (rLenQ K) (tCons (tVar 0) tNil)) (tCons (tC (V.int c)) tNil))) tNil))) tNil)) g tb D σ H := by
  refine ⟨_, hσ, _, _, rfl, .inl hS, _, _, rfl, _, _, rfl, _, rfl, ?_, ?_, for_range Pv h0 (fun i σ H hi h => ?_) fun σ H h => hd _ σ H h⟩
  · split <;> split <;> omega
  · split <;> split <;> omega
  · rw [Int.zero_add]
    exact hs i σ H h
/-- for prime, often in parts (a tuple of pairs) -/
theorem forParts {K : PySem.W.Frag} {l : List (Nat × Nat)} {v : V} {g : TG} {tb : TS} {D : Ends} {σ : L2.St} {H : Hp} (dp : Dp K H v (partsT l)) (Pv : Nat → L2.St → Hp → Prop) (h0 : Pv 0 σ H) (hsm : ∀ i σ H', Pv i σ H' → NL H H')
    (hs : ∀ (i : Nat) (q : Nat × Nat) (b : Addr) σ H', l[i]? = some q → Pv i σ H' → SqT K H' b [.int q.1, .int q.2] → g (.ref b) σ H' fun σ2 H2 => tb { D with nx := Pv (i + 1), ct := Pv (i + 1), bk := D.nx } σ2 H2) (hd : ∀ σ H, Pv l.length σ H → D.nx σ H) :
    ∃ a, v = .ref a ∧ (∃ xs, SqT K H a xs) ∧ ∃ W : Nat → Nat → L2.St → Hp → Prop, (∃ m, W 0 m σ H) ∧ ∀ i m σ H, W i m σ H → ((Itt K a).stop i H ∧ D.nx σ H) ∨ ((Itt K a).go i H ∧ ∃ N : L2.St → Hp → Prop, (∀ σ' H', N σ' H' → ∃ m', m' < m ∧ W (i + 1) m' σ' H') ∧ ∀ x H', (Itt K a).yld i H x H' → g x σ H' fun σ2 H2 => tb { D with nx := N, ct := N, bk := D.nx } σ2 H2) := by
  obtain ⟨a, xs, rfl, hs1, dx⟩ := partsT_inv dp
  have hlen : xs.length = l.length := by rw [dx.len, List.length_map]
  refine ⟨a, rfl, ⟨xs, hs1⟩, for_tup (xs := xs) Pv h0 (fun i σ H' _ h => seqT_nl (hsm i σ H' h) hs1) (fun i x σ H' hx h => ?_) (fun σ H' h => hd σ H' (hlen ▸ h))⟩
  obtain ⟨d, hd1, hd2⟩ := dx.get hx
  rw [List.getElem?_map] at hd1
  cases hq : l[i]? with
  | none => rw [hq] at hd1; cases hd1
  | some q =>
    rw [hq] at hd1
    have e : pairD q = d := Option.some.inj hd1
    subst e
    obtain ⟨b, rfl, hb⟩ := pair_inv hd2
    exact hs i q b σ H' hq h (seqT_nl (hsm i σ H' h) hb)
theorem iteF2 {c A B : Prop} [Decidable c] (hc : c) (h : B) : if (!decide c) = true then A else B := iteNS hc h
end My

end
section
set_option maxRecDepth 100000
open PySem PySem.Spec PyProof.Rows L2 NT
namespace My
/-! ### repr of data -/
mutual
def wt : PyData → Nat
  | .none => 4
  | .bool _ => 5
  | .int i => i.natAbs.log2 + 2
  | .str x => (reprText x).length
  | .list ds => wts ds + 2
  | .tuple ds => wts ds + 4
  | .dict _ => 0
def wts : List PyData → Nat
  | [] => 0
  | d :: ds => wt d + 2 + wts ds
end
theorem list_len (ts : List Str) : (listText ts).length ≤ piled ts + 2 := by
  unfold listText
  rw [strLen_append]
  have e1 : ((("]" : String) : Str)).length = 1 := rfl
  have e2 : ((("[" : String) : Str)).length = 1 := rfl
  rw [e1]
  cases ts with
  | nil => show (("[" : String) : Str).length + 1 ≤ _; rw [e2]; omega
  | cons t r =>
    show (textFrom 1 _ r).length + 1 ≤ _
    rw [textFrom_length_pos r 1 _ (by decide), strLen_append, strLen_append, piled_cons, e2]
    have e3 : ((((if 0 > 0 then ", " else "") : String) : Str)).length = 0 := rfl
    rw [e3]
    omega
theorem tuple_len (ts : List Str) : (tupleText ts).length ≤ piled ts + 4 := by
  unfold tupleText
  rw [strLen_append, strLen_append]
  have e1 : ((("(" : String) : Str)).length = 1 := rfl
  have e3 : (((if ts.length == 1 then ",)" else ")" : String) : Str)).length ≤ 2 := by split <;> decide
  rw [e1]
  by_cases h : ts = []
  · subst h
    have : (Str.join ", " []).length = 0 := rfl
    rw [this]
    omega
  · have := join_length_add ts h
    omega
mutual
theorem shown_len : ∀ d : PyData, d.showable = true → d.hasDict = false → d.shown.length ≤ wt d
  | .none, _, _ => Nat.le_refl _
  | .bool b, _, _ => by cases b <;> decide
  | .int i, _, _ => by
    have := int_text_length_le (a := i) (k := i.natAbs.log2 + 1) (by omega) (by omega)
    show (Str.ofString (toString i)).length ≤ i.natAbs.log2 + 2
    rw [PySem.ofString_length]
    exact this
  | .str x, _, _ => Nat.le_refl _
  | .list ds, h, n => by
    have := shown_lens ds h n
    have h2 := list_len (PyData.shownAll ds)
    simp only [PyData.shown, wt]
    omega
  | .tuple ds, h, n => by
    have := shown_lens ds h n
    have h2 := tuple_len (PyData.shownAll ds)
    simp only [PyData.shown, wt]
    omega
  | .dict _, _, n => by cases n
theorem shown_lens : ∀ ds : List PyData, PyData.showableAll ds = true → PyData.hasDictAll ds = false → piled (PyData.shownAll ds) ≤ wts ds
  | [], _, _ => Nat.le_refl _
  | d :: ds, h, n => by
    simp only [PyData.showableAll, Bool.and_eq_true] at h
    simp only [PyData.hasDictAll, Bool.or_eq_false_iff] at n
    have h1 := shown_len d h.1 n.1
    have h2 := shown_lens ds h.2 n.2
    simp only [PyData.shownAll, piled_cons, wts]
    omega
end
/-- data that repr serves -/
structure RD (x : PyData) : Prop where
  s : x.showable = true
  n : x.hasDict = false
  d : x.depth ≤ 60
  w : wt x ≤ 16000000
theorem RD.int {i : Int} (h : i.natAbs.log2 < 1920) : RD (.int i) := ⟨decide_eq_true h, rfl, by simp only [PyData.depth]; omega, by simp only [wt]; omega⟩
theorem log_lt {i : Int} {k : Nat} (h : i.natAbs < 2 ^ k) (hk : k < 1920) : i.natAbs.log2 < 1920 := by
  by_cases z : i.natAbs = 0
  · rw [z]; decide
  · have := (Nat.log2_lt z).mpr h
    omega
theorem RD.intB {i : Int} (h : -(2 ^ 250 : Int) < i ∧ i < 2 ^ 250) : RD (.int i) := RD.int (log_lt (k := 250) (pow_lt (m := 0) 250 h.1 h.2) (by decide))
theorem RD.bool (b : Bool) : RD (.bool b) := ⟨rfl, rfl, by simp only [PyData.depth]; omega, by simp only [wt]; omega⟩
theorem RD.none : RD .none := ⟨rfl, rfl, by simp only [PyData.depth]; omega, by simp only [wt]; omega⟩
/-- many short ones -/
structure RDs (ds : List PyData) (k m : Nat) : Prop where
  s : PyData.showableAll ds = true
  n : PyData.hasDictAll ds = false
  d : PyData.depthAll ds ≤ k
  w : wts ds ≤ m
theorem RDs.nil {k m : Nat} : RDs [] k m := ⟨rfl, rfl, by simp only [PyData.depthAll]; omega, by simp only [wts]; omega⟩
theorem RDs.cons {d : PyData} {ds : List PyData} {k m c : Nat} (hs : d.showable = true) (hn : d.hasDict = false) (hd : d.depth ≤ k) (hw : wt d + 2 ≤ c) (h : RDs ds k m) : RDs (d :: ds) k (c + m) := by
  refine ⟨?_, ?_, ?_, ?_⟩
  · simp only [PyData.showableAll, hs, h.s, Bool.and_self]
  · simp only [PyData.hasDictAll, hn, h.n, Bool.or_self]
  · have := h.d
    simp only [PyData.depthAll]
    omega
  · have := h.w
    simp only [wts]
    omega
theorem RDs.all {ds : List PyData} {k c : Nat} (h : ∀ d ∈ ds, d.showable = true ∧ d.hasDict = false ∧ d.depth ≤ k ∧ wt d + 2 ≤ c) : RDs ds k (c * ds.length) := by
  induction ds with
  | nil => exact RDs.nil
  | cons d ds ih =>
    obtain ⟨a, b, e, f⟩ := h d List.mem_cons_self
    have := RDs.cons a b e f (ih fun x hx => h x (List.mem_cons_of_mem _ hx))
    rw [List.length_cons, Nat.mul_succ, Nat.add_comm]
    exact this
theorem RDs.list {ds : List PyData} {k m : Nat} (h : RDs ds k m) (hk : k < 60) (hm : m ≤ 15000000) : RD (.list ds) :=
  ⟨h.s, h.n, by have := h.d; simp only [PyData.depth]; omega, by have := h.w; simp only [wt]; omega⟩
theorem RDs.tuple {ds : List PyData} {k m : Nat} (h : RDs ds k m) (hk : k < 60) (hm : m ≤ 15000000) : RD (.tuple ds) :=
  ⟨h.s, h.n, by have := h.d; simp only [PyData.depth]; omega, by have := h.w; simp only [wt]; omega⟩
def rReprD (K : PySem.W.Frag) : List V → Hp → VK → Prop := fun xs H Q => ∃ v d, xs = [v] ∧ Dp K H v d ∧ RD d ∧ Q (.str d.shown) H
theorem call_reprD {X : Cx} (hg : X.A.guards = some []) (hu : X.A.units + 64 < cLine) : CallR X (.builtin "repr") (rReprD X.K) := by
  intro pins s σ H xs us Q I r h
  obtain ⟨v, d, rfl, hd, hr, q⟩ := h
  obtain ⟨u, rfl, ru⟩ := vals1 r
  have hw : d.shown.length ≤ sizeLine := by
    have h1 := shown_len d hr.s hr.n
    have h2 := hr.w
    rw [sizeLine_eq]
    omega
  have hdp := hr.d
  obtain ⟨as, rd⟩ := Dp.reads I d v u hd ru
  have fin : ∀ (h' : Heap) (u : Tok) (tk : Nat), (∀ b o, s.heap.get? b = some o → h'.get? b = some o) → EP X pins σ Q (.str d.shown u) { s with heap := h', toks := tk } :=
    fun h' u tk hk => ⟨.str d.shown, H, I.kept hk, ⟨_, rfl⟩, q⟩
  cases hd with
  | non => cases ru; exact PySem.P.repr_of_none (fin s.heap _ _ fun _ _ e => e)
  | bl b => cases ru; exact PySem.P.repr_of_bool (fin s.heap _ _ fun _ _ e => e)
  | int i => obtain ⟨t, rfl⟩ := ru; exact PySem.P.repr_of_int (of_decide_eq_true hr.s) (fin s.heap _ _ fun _ _ e => e)
  | str x => obtain ⟨t, rfl⟩ := ru; exact PySem.P.repr_of_str (fin s.heap _ _ fun _ _ e => e) hw
  | lst hs ha => cases ru; exact repr_of_reads' rd hr.s (PyData.noDict_hsm hr.n) hg (by omega) (fun _ _ e => e) (fun h' u tk hk => fin h' u tk hk) hw
  | tup hs ha => cases ru; exact repr_of_reads' rd hr.s (PyData.noDict_hsm hr.n) hg (by omega) (fun _ _ e => e) (fun h' u tk hk => fin h' u tk hk) hw
/-- _law_same by repr: what is told, of the same data -/
def spSame (K : PySem.W.Frag) : Sp := fun vs H Q _ => ∃ v u d, vs = [v, u] ∧ Dp K H v d ∧ Dp K H u d ∧ RD d ∧ Q (.bl true) H
theorem okSameI {K : PySem.W.Frag} {H : Hp} {Q : VK} {E : XK} {i j : Int} (h : -(2 ^ 250 : Int) < i ∧ i < 2 ^ 250) (e : i = j) (q : Q (.bl true) H) : spSame K [.int i, .int j] H Q E := by
  subst e
  exact ⟨_, _, _, rfl, .int _, .int _, RD.intB h, q⟩
theorem okSameN {K : PySem.W.Frag} {H : Hp} {Q : VK} {E : XK} (q : Q (.bl true) H) : spSame K [.non, .non] H Q E := ⟨_, _, _, rfl, .non, .non, RD.none, q⟩
theorem okSameB {K : PySem.W.Frag} {H : Hp} {Q : VK} {E : XK} {b c : Bool} (e : b = c) (q : Q (.bl true) H) : spSame K [.bl b, .bl c] H Q E := by
  subst e
  exact ⟨_, _, _, rfl, .bl _, .bl _, RD.bool _, q⟩
end My

end
section
set_option maxRecDepth 100000
open PySem L2 NT
namespace My
theorem iteT' {b : Bool} {A B : Prop} (e : b = true) (h : A) : if b = true then A else B := by rw [if_pos e]; exact h
theorem decN {c : Prop} [Decidable c] {A B : Prop} (h1 : ¬ c → A) (h2 : c → B) : if (!decide c) = true then A else B := by
  by_cases h : c
  · rw [decide_eq_true h]; exact h2 h
  · rw [decide_eq_false h]; exact h1 h
/-! ### the promises: orders -/
def spRestsOf : Sp := fun vs H Q _ => ∃ n : Nat, vs = [.int n] ∧ 1 ≤ n ∧ n ≤ 10 ^ 31 ∧ ∀ l H', Parts n l → Same H H' → Q (.int (phi l : Nat)) H'
def spManyRests (K : PySem.W.Frag) (er : String → Addr) : Sp := fun vs H Q E => ∃ v, vs = [v] ∧ Kd K H v ∧ (∀ n : Nat, v = .int n → 1 ≤ n → n ≤ 10 ^ 9 → ∀ l H', Parts n l → Same H H' → Q (.int (phi l : Nat)) H') ∧ (inR v 1 (10 ^ 9) = false → E (.ref (er "NoNumber")) none H)
def spOrderIn : Sp := fun vs H Q _ => ∃ (x n : Int) (w : Nat), vs = [.int x, .int n, .int w] ∧ 1 ≤ n ∧ n < 2 ^ 200 ∧ 1 ≤ w ∧ w ≤ 10 ^ 31 ∧ x ^ w % n = 1 % n ∧ ∀ (m : Nat) H', Ord x n m → m ≤ w → Same H H' → Q (.int m) H'
def spOrderOf (K : PySem.W.Frag) (er : String → Addr) : Sp := fun vs H Q E => ∃ va vn, vs = [va, vn] ∧ Kd K H va ∧ Kd K H vn ∧
  (∀ (x : Int) (n : Nat), va = .int x → vn = .int n → -BIG ≤ x → x ≤ BIG → 1 ≤ n → n ≤ 10 ^ 9 → (Int.gcd x n ≠ 1 → Q .non H) ∧ (Int.gcd x n = 1 → ∀ (m : Nat) H', Ord x n m → m ≤ n → Same H H' → Q (.int m) H')) ∧
  ((inR va (-BIG) BIG && inR vn 1 (10 ^ 9)) = false → E (.ref (er "NoNumber")) none H)
section
variable {K : PySem.W.Frag} {er : String → Addr} {H : Hp} {Q : VK} {E : XK}
theorem okManyRests {n : Nat} (h1 : 1 ≤ n) (h : n ≤ 10 ^ 9) (q : ∀ l H', Parts n l → Same H H' → Q (.int (phi l : Nat)) H') : spManyRests K er [.int n] H Q E :=
  ⟨_, rfl, kI _, fun m e _ _ => by
    have : n = m := by have := V.int.inj e; omega
    subst this; exact q, nR (by omega) (by omega)⟩
theorem okOrderOf {x : Int} {n : Nat} (x1 : -BIG ≤ x) (x2 : x ≤ BIG) (h1 : 1 ≤ n) (h : n ≤ 10 ^ 9) (q : (Int.gcd x n ≠ 1 → Q .non H) ∧ (Int.gcd x n = 1 → ∀ (m : Nat) H', Ord x n m → m ≤ n → Same H H' → Q (.int m) H')) : spOrderOf K er [.int x, .int n] H Q E :=
  ⟨_, _, rfl, kI _, kI _, fun x' m e1 e2 _ _ _ _ => by
    cases e1
    have : n = m := by have := V.int.inj e2; omega
    subst this; exact q, fun z => by rw [inR_ok x1 x2, inR_ok (by omega) (by omega)] at z; cases z⟩
end
end My
namespace My
/-- a part of a law that tells True, whatever is drawn -/
def spRight : Sp := fun vs H Q _ => ∃ (a : Addr), vs = [.ref a] ∧ StAt H a ∧ ∀ H', Draw a H H' → Q (.bl true) H'
end My
namespace My
/-- for prime, often in a list of pairs -/
theorem forPartsL {K : PySem.W.Frag} {l : List (Nat × Nat)} {v : V} {g : TG} {tb : TS} {D : Ends} {σ : L2.St} {H : Hp} (dp : Dp K H v (partsL l)) (Pv : Nat → L2.St → Hp → Prop) (h0 : Pv 0 σ H) (hsm : ∀ i σ H', Pv i σ H' → Same H H')
    (hs : ∀ (i : Nat) (q : Nat × Nat) (b : Addr) σ H', l[i]? = some q → Pv i σ H' → SqT K H' b [.int q.1, .int q.2] → g (.ref b) σ H' fun σ2 H2 => tb { D with nx := Pv (i + 1), ct := Pv (i + 1), bk := D.nx } σ2 H2) (hd : ∀ σ H, Pv l.length σ H → D.nx σ H) :
    ∃ a, v = .ref a ∧ (∃ xs, SqL K H a xs) ∧ ∃ W : Nat → Nat → L2.St → Hp → Prop, (∃ m, W 0 m σ H) ∧ ∀ i m σ H, W i m σ H → ((Itl K a).stop i H ∧ D.nx σ H) ∨ ((Itl K a).go i H ∧ ∃ N : L2.St → Hp → Prop, (∀ σ' H', N σ' H' → ∃ m', m' < m ∧ W (i + 1) m' σ' H') ∧ ∀ x H', (Itl K a).yld i H x H' → g x σ H' fun σ2 H2 => tb { D with nx := N, ct := N, bk := D.nx } σ2 H2) := by
  obtain ⟨a, xs, rfl, hs1, dx⟩ := partsL_inv dp
  have hlen : xs.length = l.length := by rw [dx.len, List.length_map]
  refine ⟨a, rfl, ⟨xs, hs1⟩, for_list (xs := xs) Pv h0 (fun i σ H' _ h => (hsm i σ H' h).seq hs1) (fun i x σ H' hx h => ?_) (fun σ H' h => hd σ H' (hlen ▸ h))⟩
  obtain ⟨d, hd1, hd2⟩ := dx.get hx
  rw [List.getElem?_map] at hd1
  cases hq : l[i]? with
  | none => rw [hq] at hd1; cases hd1
  | some q =>
    rw [hq] at hd1
    have e : pairD q = d := Option.some.inj hd1
    subst e
    obtain ⟨b, rfl, hb⟩ := pair_inv hd2
    exact hs i q b σ H' hq h (seqT_same (hsm i σ H' h) hb)
/-- [.. for prime, often in a list of pairs ..] -/
theorem lcPartsL {K : PySem.W.Frag} {l : List (Nat × Nat)} {v : V} {g : TG} {tt : TT} {te : TE} {vs : List Nat} {σ : L2.St} {H1 : Hp} {Qd : Addr → Hp → Prop} (dp : Dp K H1 v (partsL l)) (Pv : Addr → Nat → Hp → Prop) (h0 : ∀ D, H1 D = none → Pv D 0 (upd H1 D (.lst []))) (hsm : ∀ D, H1 D = none → ∀ i H', Pv D i H' → Same H1 H')
    (hs : ∀ D, H1 D = none → ∀ (i : Nat) (q : Nat × Nat) (b : Addr) H, l[i]? = some q → Pv D i H → SqT K H b [.int q.1, .int q.2] → g (.ref b) (wipe σ vs) H fun σ2 H2 => wipe σ2 vs = wipe σ vs ∧ tt σ2 H2 fun b H3 =>
      if b = true then te σ2 H3 fun y H4 => ∃ acc, H4 D = some (.lst acc) ∧ acc.length < sizeLine ∧ Pv D (i + 1) (upd H4 D (.lst (acc ++ [y]))) else Pv D (i + 1) H3) (hd : ∀ D, H1 D = none → ∀ H, Pv D l.length H → Qd D H) :
    ∃ a, v = .ref a ∧ (∃ xs, SqL K H1 a xs) ∧ ∀ D, H1 D = none → ∃ W : Nat → Nat → Hp → Prop, (∃ m, W 0 m (upd H1 D (.lst []))) ∧ ∀ i m H, W i m H →
      ((Itl K a).stop i H ∧ Qd D H) ∨ ((Itl K a).go i H ∧ ∃ Nx : Hp → Prop, (∀ H', Nx H' → ∃ m', m' < m ∧ W (i + 1) m' H') ∧ ∀ x H', (Itl K a).yld i H x H' → g x (wipe σ vs) H' fun σ2 H2 => wipe σ2 vs = wipe σ vs ∧ tt σ2 H2 fun b H3 =>
        if b = true then te σ2 H3 fun y H4 => ∃ acc, H4 D = some (.lst acc) ∧ acc.length < sizeLine ∧ Nx (upd H4 D (.lst (acc ++ [y]))) else Nx H3) := by
  obtain ⟨a, xs, rfl, hs1, dx⟩ := partsL_inv dp
  have hlen : xs.length = l.length := by rw [dx.len, List.length_map]
  refine ⟨a, rfl, ⟨xs, hs1⟩, fun D hD => lc_list (xs := xs) (Qd := fun H => Qd D H) (Pv D) (h0 D hD) (fun i H _ h => (hsm D hD i H h).seq hs1) (fun i x H hx h => ?_) (fun H h => hd D hD H (hlen ▸ h))⟩
  obtain ⟨d, hd1, hd2⟩ := dx.get hx
  rw [List.getElem?_map] at hd1
  cases hq : l[i]? with
  | none => rw [hq] at hd1; cases hd1
  | some q =>
    rw [hq] at hd1
    have e : pairD q = d := Option.some.inj hd1
    subst e
    obtain ⟨b, rfl, hb⟩ := pair_inv hd2
    exact hs D hD i q b H hq h (seqT_same (hsm D hD i H h) hb)
end My

end
section
set_option maxRecDepth 100000
set_option maxHeartbeats 2000000
open PySem PySem.Spec PyProof.Rows L2 LamX
namespace My
/-! ### lambdas as values -/
/-- the object at f is o, for good -/
def LamO (f : Addr) (o : Obj) : HO := .ext fun h => h.get? f = some o
theorem lamO_ok {P : Program} {w : World} {H : Hp} {h : Heap} {f : Addr} {o : Obj} (e : h.get? f = some o) : ObjOk P w H h f (LamO f o) := ⟨e, ⟨o, e⟩, fun _ _ a k => k _ a⟩
theorem lamO_ne {f : Addr} {o : Obj} (ps : Array Value) : LamO f o ≠ .tbl ps := fun z => by
  unfold LamO at z
  cases z
/-- a lambda without parameters: its text, its names, what its body does (the wish of an exception ahead) -/
structure LamD where
  params : Arguments
  body : Expr
  scope : Scope
  t : XK → TE
structure LamOk (X : Cx) (k : Nat) (d : LamD) : Prop where
  L : LamS X.env.scope d.scope
  bind : ∀ (q : Str) (cl : List (Str × Addr)) (pm cv ctv : Value), bindArgs (PySem.W.kla_fn "<lambda>" q d.params d.body d.scope cl pm cv ctv) ⟨[], []⟩ = pure []
  body : ∀ (A : Around) (outer : List Env) (s : Shared) (H : Hp) (E : XK) (f c' : Addr), Room k (A.deeper (lamEnv X d.scope s.heap.objs.size f c')) → A.guards = some [] → PE (lamCx X A outer s H E d.scope f c') d.body (d.t E)
def lamObj (X : Cx) (d : LamD) (pm : Value) (c' : Addr) (ctv : Value) : Obj := PySem.W.kla_obj "<lambda>" (X.env.qual ++ "<lambda>") d.params d.body d.scope (cloFrom X.env.cells d.scope.names []) pm c' ctv
/-- f is the lambda d of X -/
def IsLam (X : Cx) (d : LamD) (f : Addr) (H : Hp) : Prop := ∃ (pm ctv : Value) (c' : Addr), H f = some (LamO f (lamObj X d pm c' ctv)) ∧ H c' = some (CodeO c' (X.env.qual ++ "<lambda>"))
theorem IsLam.ext {X : Cx} {d : LamD} {f : Addr} {H H' : Hp} (h : IsLam X d f H) (e : ExtN H H') : IsLam X d f H' := by
  obtain ⟨pm, ctv, c', a, b⟩ := h
  exact ⟨pm, ctv, c', e _ _ a lamO_ne, e _ _ b codeO_ne⟩
theorem IsLam.same {X : Cx} {d : LamD} {f : Addr} {H H' : Hp} (h : IsLam X d f H) (e : Same H H') : IsLam X d f H' := h.ext (.of fun _ _ q => e _ _ q)
section
variable {X : Cx} {pins : List (Addr × Obj)} {σ : L2.St} {H : Hp} {s : Shared}
/-- a new lambda is tracked -/
theorem lam_new {T : List (Addr × Str)} {c P : Addr} {d : LamD} {pos : Pos} {E : Value → Shared → Prop} {Q : Value → Shared → Prop} (I : Inv X pins σ H s) (TB : TabB X.base X.mg c P) (hcode : X.env.code = .ref c)
    (hm : (P, X.env.qual ++ "<lambda>") ∈ T) (hu : ∀ p ∈ T, p.1 = P → p.2 = X.env.qual ++ "<lambda>") (hT : Tabs T H) (hdef : defaultsOf d.params X.env = ([], [])) (L : LamS X.env.scope d.scope)
    (h : ∀ (f : Addr) (H1 : Hp) (s' : Shared), Inv X pins σ H1 s' → ExtN H H1 → Tabs T H1 → IsLam X d f H1 → Q (.ref f) s') :
    wpAny (model X.prog X.w) X.A (eval (.Lambda d.params d.body d.scope pos) X.env) Q E s := by
  obtain ⟨ps, hP, ht, ha⟩ := hT _ hm
  have bP : s.heap.BuiltinsAt X.mg P := TB.bm.keeps I.bk
  have hP' : s.heap.get? P = some { cls := .none, data := .fields ps } := I.hok P _ hP
  have lay : ∀ {H1 : Hp} {h' : Heap} {tk : Nat} (c' : Addr) (ctv : Value), Inv X pins σ H1 { s with heap := h', toks := tk } → ExtN H H1 → Tabs T H1 → H1 c' = some (CodeO c' (X.env.qual ++ "<lambda>")) →
      Q (.ref h'.objs.size) { s with heap := h'.push (lamObj X d ((X.mg "__name__").getD .none) c' ctv), toks := tk } := by
    intro H1 h' tk c' ctv I1 eN T1 hc
    have nF : H1 h'.objs.size = none := I1.hok.fresh (Nat.le_refl _)
    have I2 := I1.laid (h' := h'.push (lamObj X d ((X.mg "__name__").getD .none) c' ctv)) (t' := tk) (o := LamO h'.objs.size (lamObj X d ((X.mg "__name__").getD .none) c' ctv)) (a := h'.objs.size) (fun b u e => Heap.get?_push_of_some _ e) (Nat.le_refl _) (lamO_ok (Heap.get?_push_size _ rfl))
    have sm : Same H1 (upd H1 h'.objs.size (LamO h'.objs.size (lamObj X d ((X.mg "__name__").getD .none) c' ctv))) := same_new nF _
    exact h _ _ _ I2 (eN.trans (.of fun _ _ q => sm _ _ q)) (T1.ext fun _ _ q => sm _ _ q) ⟨_, ctv, c', upd_same, sm _ _ hc⟩
  refine PySem.W.kla_eval hdef ?_
  cases hc : codeAmong pos ps.toList with
  | some cv =>
    obtain ⟨c', e, hco⟩ := ha pos cv hc
    subst e
    refine PySem.W.kla_makeFunctionHit (mg := X.mg) (c := c) (P := P) (ps := ps) (closure_ok (L.has I.ok)) I.ok.glob (I.mod.glob.keeps I.bk) hcode (TB.code.keeps I.bk) hP' ht hc bP fun ctv h' tk hx hsz => ?_
    exact lay c' ctv (I.kept (h' := h') (t' := tk) hx) (ExtN.refl H) hT hco
  | none =>
    refine PySem.W.kla_makeFunction (mg := X.mg) (c := c) (P := P) (ps := ps) (closure_ok (L.has I.ok)) I.ok.glob (I.mod.glob.keeps I.bk) hcode (TB.code.keeps I.bk) hP' ht hc TB.gP bP fun c' ctv h' tk hx hge hlt hrec htb => ?_
    obtain ⟨c2, oc, vs, t, e2, hoc, hd, hv⟩ := hrec
    cases e2
    have nC : H c' = none := I.hok.fresh hge
    have I1 := inv_table (t' := tk) (more := #[rawInt pos.line, rawInt pos.col, .ref c']) (h' := h') I hP hx htb hge ⟨oc, vs, t, hoc, hd, hv⟩
    generalize hH1 : upd (upd H P (.tbl (ps ++ #[rawInt pos.line, rawInt pos.col, .ref c']))) c' (CodeO c' (X.env.qual ++ "<lambda>")) = H1 at I1
    have new : H1 c' = some (CodeO c' (X.env.qual ++ "<lambda>")) := by rw [← hH1]; exact upd_same
    have eN : ExtN H H1 := fun b o e n => by
      have n1 : b ≠ c' := ne_of_none e nC
      have n2 : b ≠ P := fun z => n ps (Option.some.inj (e.symm.trans (z ▸ hP)))
      rw [← hH1, upd_ne n1, upd_ne n2]
      exact e
    have atP : H1 P = some (.tbl (ps ++ #[rawInt pos.line, rawInt pos.col, .ref c'])) := by rw [← hH1, upd_ne (ne_of_none hP nC), upd_same]
    refine lay c' ctv I1 eN (fun p hp => ?_) new
    obtain ⟨ps', a1, a2, a3⟩ := hT p hp
    by_cases hb : p.1 = P
    · rw [hb] at a1 ⊢
      rw [hP] at a1
      cases a1
      have eL : (ps ++ #[rawInt pos.line, rawInt pos.col, .ref c']).toList = ps.toList ++ [rawInt pos.line, rawInt pos.col, .ref c'] := by simp
      refine ⟨_, atP, by rw [eL]; exact PySem.TriplesOk_snoc _ _ _ _ ht, fun p' cv hcv => ?_⟩
      rw [eL] at hcv
      rcases among_app _ ht hcv with z | z
      · obtain ⟨c0, e1, e2⟩ := a3 p' cv z
        exact ⟨c0, e1, eN _ _ e2 codeO_ne⟩
      · exact ⟨c', z, by rw [hu p hp hb]; exact new⟩
    · refine ⟨ps', ?_, a2, fun p' cv hcv => ?_⟩
      · rw [← hH1, upd_ne (ne_of_none a1 nC), upd_ne hb]; exact a1
      · obtain ⟨c0, e1, e2⟩ := a3 p' cv hcv
        exact ⟨c0, e1, eN _ _ e2 codeO_ne⟩
/-- lambda: .. -/
theorem pe_lamV {T : List (Addr × Str)} {c P : Addr} {d : LamD} {k : Nat} {pos : Pos} (TB : TabB X.base X.mg c P) (hcode : X.env.code = .ref c)
    (hm : (P, X.env.qual ++ "<lambda>") ∈ T) (hu : ∀ p ∈ T, p.1 = P → p.2 = X.env.qual ++ "<lambda>") (hdef : defaultsOf d.params X.env = ([], [])) (O : LamOk X k d) :
    PE X (.Lambda d.params d.body d.scope pos) (fun _ H Q => Tabs T H ∧ ∀ f H1, ExtN H H1 → Tabs T H1 → IsLam X d f H1 → Q (.ref f) H1) := by
  refine ⟨fun pins s σ H Q I h => ?_⟩
  exact lam_new I TB hcode hm hu h.1 hdef O.L fun f H1 s' I1 e t l => ⟨.ref f, H1, I1, rfl, h.2 f H1 e t l⟩
end
end My

end
section
set_option maxRecDepth 100000
set_option maxHeartbeats 2000000
open PySem PySem.Spec PyProof.Rows L2 LamX
namespace My
section
variable {X : Cx} {pins : List (Addr × Obj)} {σ : L2.St} {H : Hp} {s : Shared}
/-- the call of a lambda of X at f, from frames that stand above X's -/
theorem lam_code {d : LamD} {k : Nat} {env : Env} {HZ : Hp} {s1 : Shared} {f : Addr} {Q : VK} {E : XK} (I : Inv X pins σ H s) (O : LamOk X k d) (hr : Room (k + 1) (X.A.deeper env)) (hgd : X.A.guards = some [])
    (e0 : Env0 X.prog X.w X.K X.mg X.base (X.A.deeper env) (env :: X.stack) s1 HZ) (lim : s1.heap.NoLimit) (un : Un (frs X.stack) [] H HZ s.heap s1.heap) (hl : IsLam X d f HZ) (ht : d.t E σ HZ Q) :
    codeAny (model X.prog X.w) (X.A.deeper env) (.call (.ref f) ⟨[], []⟩) (CR (L2.CX X.prog X.w) (env :: X.stack) X.prog X.w HZ s1 Q E) s1 := by
  obtain ⟨pm, ctv, c', h1, h2⟩ := hl
  obtain ⟨of1, _, _⟩ := e0.hok f _ h1
  obtain ⟨⟨oc, vs, t, hoc, hdc, hvc⟩, _, _⟩ := e0.hok c' _ h2
  refine PySem.W.kla_callFunE hr.depth of1 rfl O.L.co O.L.gen rfl ⟨c', oc, vs, t, rfl, hoc, hdc, hvc⟩ ?_
  rw [O.bind]
  refine wpAny_pure (wpAny_newFunctionEnv (fun y hy => (O.L.own y hy).2) (fun y hy => absurd hy (by simp)) (fun h₁ hns hsb => ⟨lim.fresh _ hsb, ?_⟩) O.L.kind)
  show codeAny _ _ (.expr d.body (lamEnv X d.scope s1.heap.objs.size f c')) _ _
  have kp : ∀ b o, s1.heap.get? b = some o → h₁.get? b = some o := fun b o e => hsb.extBut b o (Nat.ne_of_lt (Heap.lt_size e)) (Heap.get?_push_of_some _ e)
  have J : Inv (lamCx X (X.A.deeper env) (env :: X.stack) s1 HZ E d.scope f c') [] σ HZ { s1 with heap := h₁, toks := s1.toks + ([] : List (Str × Value)).length } := lam_start2 I O.L e0 hr.hd un hns kp
  refine PySem.W.kla_codeExpr (wpAny_mono ((O.body _ _ s1 HZ E f c' (hr.deeper _) hgd).run [] _ _ HZ Q J ht) (fun v s' hq => ?_) fun e s' hq => hq)
  obtain ⟨w', H', J', rv, q⟩ := hq
  exact ⟨w', H', J'.os, J'.bare, J'.base, J'.hok, rv, q⟩
/-- a(), in a def that got the lambda -/
theorem pe_actV {d : LamD} {CXg : CXT} {Eg : XK} {Ng : List Str} {qg : Str} {sg : Scope} {g : Addr} {cdg : Value} {k i : Nat} {a : Str} {pn : List (Addr × Obj)} {xe : Value → Shared → Prop} {W : WX} {p1 p2 : Pos}
    (I : Inv X pins σ H s) (O : LamOk X k d) (hr : Room (k + 1) (X.A.deeper (envOfC qg sg s.heap.objs.size g cdg))) (hgd : X.A.guards = some [])
    (tk : Takes ((cxOf CXg X.prog X.w X.K X.mg X.base Ng qg sg g cdg X.A X.stack s H Eg).tr pn xe) W) (hN : Ng[i]? = some a) (hv : Vis sg a) (hd : (a == ("__debug__" : Str)) = false := by decide) (hcd : (a == ("__classdict__" : Str)) = false := by decide) :
    PE ((cxOf CXg X.prog X.w X.K X.mg X.base Ng qg sg g cdg X.A X.stack s H Eg).tr pn xe) (.Call (.Name a p1) [] [] p2)
      (fun σZ HZ Q => ∃ f, σZ[i]? = some (some (.ref f)) ∧ IsLam X d f HZ ∧ d.t (fun cls dd H' => W cls dd σZ H') σ HZ Q) := by
  refine ⟨fun pinsZ sZ σZ HZ Q IZ h => ?_⟩
  obtain ⟨f, hs, hl, ht⟩ := h
  refine wpAny_Call_Name_kw (thn ((pe_var (pos := p1) (i := i) hN hv hd hcd).run pinsZ sZ σZ HZ (fun v H1 => v = .ref f ∧ H1 = HZ) IZ ⟨.ref f, hs, rfl, rfl⟩) fun u s1 ⟨v, H1, I1, r1, q1⟩ => ?_)
  obtain ⟨ev, eH⟩ := q1
  subst ev
  rw [eH] at I1
  obtain rfl : u = Value.ref f := r1
  have hl' := hl
  obtain ⟨pm, ctv, c', h1, h2⟩ := hl'
  obtain ⟨of1, _, _⟩ := I1.hok f _ h1
  refine PySem.W.callWith_F0 ⟨_, _, _, _, of1⟩ ?_
  have un : Un (frs X.stack) [] H HZ s.heap s1.heap := I1.base
  have rc := lam_code (env := envOfC qg sg s.heap.objs.size g cdg) (E := fun cls dd H' => W cls dd σZ H') I O hr hgd I1.env0 I1.nolimit un hl ht
  refine wpAny_call (codeAny_mono rc fun r s' hq => ?_)
  cases r with
  | error e => exact tk e s' (XE.of_call I1 (fun _ _ _ z => z) hq)
  | ok fl =>
    cases fl with
    | ret u => exact I1.after hq
    | next => exact False.elim hq
    | brk => exact False.elim hq
    | cont => exact False.elim hq
end
/-! ### a def that calls what it got -/
/-- the def g, handed such a thing alone: tl is what the thing does, L what is known of it -/
def Gives (P : Program) (w : World) (K : PySem.W.Frag) (mg : Str → Option Value) (base : Heap) (k : Nat) (Ng : List Str) (x : Str) (sg : Scope) (g : Addr) (cdg : Value) (bg : List Stmt) (a : Str) (TT : (Addr → Hp → Prop) → (XK → Hp → VK → Prop) → Addr → Hp → VK → Prop) : Prop :=
  ∀ (A : Around) (outer : List Env) (s : Shared) (H : Hp) (Q : VK) (f : Addr) (L : Addr → Hp → Prop) (tl : XK → Hp → VK → Prop), Room k (A.deeper (envOfC x sg s.heap.objs.size g cdg)) → A.guards = some [] → (∀ H H', Same H H' → L f H → L f H') →
    (∀ (W : WX) (pn : List (Addr × Obj)) (xe : Value → Shared → Prop) (p1 p2 : Pos), Takes ((cxOf CX0 P w K mg base Ng x sg g cdg A outer s H E0).tr pn xe) W →
      PE ((cxOf CX0 P w K mg base Ng x sg g cdg A outer s H E0).tr pn xe) (.Call (.Name a p1) [] [] p2) (fun σZ HZ Q => ∃ f, σZ[0]? = some (some (.ref f)) ∧ L f HZ ∧ tl (fun cls dd H' => W cls dd σZ H') HZ Q)) →
    L f H → TT L tl f H Q →
    ∃ t, PSs (cxOf CX0 P w K mg base Ng x sg g cdg A outer s H E0).nox bg t ∧ t { nx := fun _ H' => Q .non H', rt := Q } (L2.start Ng [.ref f]) H
end My

end
section
set_option maxRecDepth 100000
set_option maxHeartbeats 2000000
open PySem PySem.Spec PyProof.Rows L2 LamX
namespace My
abbrev TTK := (Addr → Hp → Prop) → (XK → Hp → VK → Prop) → Addr → Hp → VK → Prop
structure ClG (P : Program) (w : World) (K : PySem.W.Frag) (mg : Str → Option Value) (base : Heap) (k : Nat) (x : Str) (TT : TTK) : Prop where
  ex : ∃ (g : Addr) (st : Stmt) (N : List Str) (a : Str) (oc : Value) (od : Option Addr) (kV doc pm : Value) (an : Option Addr) (cdv ct : Value) (osl : Array (Option Value)),
    K.lookup g = some ⟨oc, od, .func (PySem.W.fnOf x x (defArgs st) (defBody st) (defScope st) .none kV doc pm an cdv ct), osl⟩ ∧ PySem.W.codeIn K cdv x = true ∧ PySem.W.keepIn K (.ref g) = true ∧ mg x = some (.ref g) ∧
    Binds K (PySem.W.fnOf x x (defArgs st) (defBody st) (defScope st) .none kV doc pm an cdv ct) [a] [] ∧ FnScope N [a] (defScope st) ∧ N[0]? = some a ∧ Vis (defScope st) a ∧ (a == ("__debug__" : Str)) = false ∧ (a == ("__classdict__" : Str)) = false ∧
    Gives P w K mg base k N x (defScope st) g cdv (defBody st) a TT
theorem ClG.mk' {P : Program} {w : World} {K : PySem.W.Frag} {mg : Str → Option Value} {base : Heap} {k : Nat} {x a : Str} {N : List Str} {st : Stmt} {g : Addr} {fd : FuncData} {TT : TTK} (F : Fun K x x st g fd) (hm : mg x = some (.ref g)) (b : Binds K fd [a] [])
    (S : FnScope N [a] (defScope st)) (hN : N[0]? = some a) (hv : Vis (defScope st) a) (h1 : (a == ("__debug__" : Str)) = false) (h2 : (a == ("__classdict__" : Str)) = false)
    (G : ∀ cdv, Gives P w K mg base k N x (defScope st) g cdv (defBody st) a TT) : ClG P w K mg base k x TT := by
  obtain ⟨oc, od, kV, doc, pm, an, cdv, ct, osl, rfl, lk, hcd⟩ := F.ex
  exact ⟨g, st, N, a, oc, od, kV, doc, pm, an, cdv, ct, osl, lk, hcd, F.kp, hm, b, S, hN, hv, h1, h2, G cdv⟩
section
variable {X : Cx} {pins : List (Addr × Obj)} {σ : L2.St} {H : Hp} {s : Shared} {k j m : Nat} {x : Str} {TT : TTK}
/-- the call of such a def with a lambda of X -/
theorem give_code {d : LamD} {f : Addr} {Q : VK} (c : ClG X.prog X.w X.K X.mg X.base k x TT) (hr : Room m X.A) (hgd : X.A.guards = some []) (hk : k + 1 ≤ m) (hj : j + 2 ≤ m) (O : LamOk X j d) :
    ∃ g, X.mg x = some (.ref g) ∧ PySem.W.keepIn X.K (.ref g) = true ∧ ∀ {pins : List (Addr × Obj)} {σ : L2.St} {H : Hp} {s : Shared} {f : Addr} {Q : VK}, Inv X pins σ H s → IsLam X d f H → TT (IsLam X d) (fun E H' Q' => d.t E σ H' Q') f H Q →
      codeAny (model X.prog X.w) X.A (.call (.ref g) ⟨[.ref f], []⟩) (CR CX0 X.stack X.prog X.w H s Q E0) s := by
  obtain ⟨g, st, N, a, oc, od, kV, doc, pm, an, cdv, ct, osl, lk, hcd, hkp, hm, hb, S, hN, hv, h1, h2, G⟩ := c.ex
  refine ⟨g, hm, hkp, fun {pins σ H s f Q} I hl ht => ?_⟩
  refine run_ofS (k := m - 1) (N := N) (ps := [a]) (us := [.ref f]) (vs := [.ref f]) lk hcd S (by rw [show m - 1 + 1 = m by omega]; exact hr) I.env0 (hb s [.ref f] I.kIn rfl) (.cons rfl .nil) rfl fun hr' => ?_
  obtain ⟨t, ht', hq⟩ := G X.A X.stack s H Q f (IsLam X d) (fun E H' Q' => d.t E σ H' Q') (hr'.mono (by omega)) hgd (fun _ _ sm z => z.same sm) (fun W pn xe p1 p2 tk => pe_actV I O (hr'.mono (by omega)) hgd tk hN hv h1 h2) hl ht
  exact ⟨t, ht'.nox, hq⟩
/-- g(e), e one of the lambdas of X -/
theorem pe_giveV {Fam : List LamD} {e : Expr} {t : TA} {p pos : Pos} (c : ClG X.prog X.w X.K X.mg X.base k x TT) (hr : Room m X.A) (hgd : X.A.guards = some []) (hk : k + 1 ≤ m) (hj : j + 2 ≤ m) (hF : ∀ d ∈ Fam, LamOk X j d) (hg : Gl X x) (ha : PA X [e] t)
    (hdb : (x == ("__debug__" : Str)) = false := by decide) (he : starEach [e] X.env = (false, eval e X.env) :: starEach [] X.env := by rfl) (hpl : (backTo pos (starEach [] X.env)).any (·.1) = false := by rfl) :
    PE X (.Call (.Name x p) [e] [] pos) (fun σ H Q => t σ H fun vs H1 => ∃ d ∈ Fam, ∃ f, vs = [.ref f] ∧ IsLam X d f H1 ∧ TT (IsLam X d) (fun E H' Q' => d.t E σ H' Q') f H1 Q) := by
  obtain ⟨g, st, N, a, oc, od, kV, doc, pm, an, cdv, ct, osl, lk, hcd, hkp, hm, _⟩ := c.ex
  refine ⟨fun pins s σ H Q I z => wpAny_Call_Name_kw (ld_glob I hg hm ?_ hdb)⟩
  refine PySem.W.callWith_K (h₀ := X.base) I.ok.mod.kin hkp (thn (ha.run pos pins s σ H _ I z) ?_) he hpl
  rintro us s1 ⟨as, H1, I1, r, d, hd, f, rfl, hl, y⟩
  refine ⟨I1.kIn, ?_⟩
  cases r with
  | cons r1 r2 =>
    cases r2
    obtain rfl := r1
    obtain ⟨g', hm', _, run⟩ := give_code (f := f) (Q := Q) c hr hgd hk hj (hF d hd)
    have eg : g = g' := by
      rw [hm] at hm'
      exact Value.ref.inj (Option.some.inj hm')
    subst eg
    refine wpAny_call (codeAny_mono (run I1 hl y) fun res s' hq => ?_)
    match res, hq with
    | .error er, hq => exact False.elim hq
    | .ok (.ret u), hq => exact I1.after hq
    | .ok .next, hq => exact False.elim hq
    | .ok .brk, hq => exact False.elim hq
    | .ok .cont, hq => exact False.elim hq
end
end My

end
section
set_option maxRecDepth 100000
set_option maxHeartbeats 4000000
open PySem PySem.Spec PyProof.Rows L2 LamX
namespace My
/-- [elt for y in iter], elt read item by item, and read in the state of the def around it -/
def tLcI (wi : TI) (te : L2.St → V → Hp → VK → Prop) : TE := fun σ H Q => wi σ H fun J H1 => ∀ D, H1 D = none → ∃ W : Nat → Nat → Hp → Prop, (∃ m, W 0 m (upd H1 D (.lst []))) ∧ ∀ i m H, W i m H →
  (J.stop i H ∧ Q (.ref D) H) ∨ (J.go i H ∧ ∃ Nx : Hp → Prop, (∀ H', Nx H' → ∃ m', m' < m ∧ W (i + 1) m' H') ∧ ∀ x H', J.yld i H x H' → te σ x H' fun y H4 => ∃ acc, H4 D = some (.lst acc) ∧ acc.length < sizeLine ∧ Nx (upd H4 D (.lst (acc ++ [y]))))
section
variable {X : Cx}
theorem pe_lcI {y : Str} {iy : Nat} {py : Pos} {elt iter : Expr} {scope : Scope} {pos : Pos} {wi : TI} {te : L2.St → V → Hp → VK → Prop} (hc : X.calm = true) (hN : X.N.Nodup) (hi : PI X (.Name y py) iter wi) (ok : BlkOk X.N X.env.scope scope [(y, iy)]) (hl : Loc scope y) (hf : scope.names.lookup y = some .local)
    (he : ∀ (pins : List (Addr × Obj)) (σ : L2.St) (C : Addr) (cl : List (Str × Addr)) (fp : List Addr) (s3 : Shared) (H3 : Hp), Inv X pins σ H3 s3 → (∀ {pn : List (Addr × Obj)} {σ' : L2.St} {H' : Hp} {s' : Shared}, Inv (X.blk s3 H3 scope (compEnvC scope cl C X.env) fp) pn σ' H' s' → Inv X pins σ H' s') →
      ∀ (pn : List (Addr × Obj)) (s' : Shared) (σ' : L2.St) (H' : Hp) (x : V) (Q : VK), Inv (X.blk s3 H3 scope (compEnvC scope cl C X.env) fp) pn σ' H' s' → σ'[iy]? = some (some x) → te σ x H' Q →
        wpAny (model X.prog X.w) X.A (eval elt (compEnvC scope cl C X.env)) (EP (X.blk s3 H3 scope (compEnvC scope cl C X.env) fp) pn σ' Q) (fun _ _ => False) s')
    (hs : ∀ x, foldedSetIterable iter X.env x = pure x := by intro _; rfl) : PE X (.ListComp elt [⟨.Name y py, iter, [], 0⟩] scope pos) (tLcI wi te) := by
  refine ⟨fun pins s σ H Q I h => ?_⟩
  rw [eval_ListComp]
  have hfree : ∀ y ∈ scope.names, y.2 = .free → ∃ c, X.env.cells.lookup y.1 = some c := fun z hz e => (ok.free z hz e).elim (fun k => I.ok.has _ (.inl k)) (fun k => I.ok.has _ (.inr k))
  refine wpAny_comprehension_free (use := none) rfl hs (closure_ok hfree) ok.kind (fun z hz e => by rw [ok.uniq z hz, e]) (thn (hi.run pins s σ H _ I h) fun xv s1 hx => thn hx fun itv s2 h2 => ?_)
  obtain ⟨it, fp, tn, J, H2, e, I2, T, st2, f2, q⟩ := h2
  subst e
  refine wpAny_newObj_type (newEnv_comp ?_) (by show 0 ≤ sizeLine; decide)
  generalize hD : s2.heap.objs.size = D
  obtain ⟨W, ⟨m0, w0⟩, turn⟩ := q D (I2.hok.fresh (Nat.le_of_eq hD))
  -- the new list is laid
  generalize hs3 : ({ s2 with heap := s2.heap.push { cls := .type "list", data := .seq ([] : List Value).toArray } } : Shared) = s3
  have h3 : s3.heap = s2.heap.push { cls := .type "list", data := .seq ([] : List Value).toArray } := by rw [← hs3]
  have I3 : Inv X pins σ (upd H2 D (.lst [])) s3 := by
    rw [← hs3]
    exact I2.laid (t' := s2.toks) (fun b o e => Heap.get?_push_of_some _ e) (Nat.le_of_eq hD) ⟨Nat.zero_le _, [], 0, .nil, by rw [← hD]; exact Heap.get?_push_size _ rfl⟩
  have f3 : ∀ b ∈ fp, FpOk X pins (upd H2 D (.lst [])) b ∧ b < s3.heap.objs.size := fun b hb => by
    obtain ⟨o, e, _⟩ := T.obj _ _ st2 b hb
    have lt := Heap.lt_size e
    obtain ⟨g1, g2⟩ := f2 b hb
    exact ⟨⟨by rw [upd_ne (by rw [← hD]; exact Nat.ne_of_lt lt)]; exact g1, g2⟩, by rw [h3, Heap.size_push]; exact Nat.lt_succ_of_lt lt⟩
  have st3 : tn 0 s3.heap := T.keep _ _ _ st2 fun b _ o e => by rw [h3]; exact Heap.get?_push_of_some _ e
  have I4 := block_start I3 ok hN f3
  have el := he pins σ s3.heap.objs.size (cellsFrom (s3.heap.objs.size + 1) scope.names (cloFrom X.env.cells scope.names [])) fp s3 (upd H2 D (.lst [])) I3
  have hfl : ∀ b ∈ fp, (b ∈ X.ex ∨ X.s_0.heap.objs.size ≤ b) ∧ b ≠ X.env.locals ∧ (∀ x c, X.env.cells.lookup x = some c → c ≠ b) ∧ ∀ p ∈ X.pn ++ pins, p.1 ≠ b := fun b hb => ⟨(f3 b hb).1.2.2.2.1, (f3 b hb).1.2.1, (f3 b hb).1.2.2.2.2.1, (f3 b hb).1.2.2.2.2.2⟩
  have n3 : ∀ b ∈ fp, (upd H2 D (.lst [])) b = none := fun b hb => (f3 b hb).1.1
  show codeAny _ _ (.compStart (.ListComp elt [⟨.Name y py, iter, [], 0⟩] scope pos) 0 (.ref it) (.ref D) (compEnvC scope (cellsFrom (s3.heap.objs.size + 1) scope.names (cloFrom X.env.cells scope.names [])) s3.heap.objs.size X.env)) (compPost (model X.prog X.w) X.A X.xe none (EP X pins σ Q) (.ref D) s3.heap.objs.size) { s3 with heap := pushCells (s3.heap.push { cls := .type "dict", data := .dict #[] }) scope.names }
  obtain ⟨ce, hce⟩ : ∃ ce, compEnvC scope (cellsFrom (s3.heap.objs.size + 1) scope.names (cloFrom X.env.cells scope.names [])) s3.heap.objs.size X.env = ce := ⟨_, rfl⟩
  have cL : ce.locals = s3.heap.objs.size := by rw [← hce]; rfl
  have cS : ce.scope = relS scope X.env.scope := by rw [← hce]; rfl
  rw [hce] at I4 el ⊢
  generalize upd H2 D (.lst []) = H3 at I3 I4 el w0 n3 f3
  have back : ∀ {pn : List (Addr × Obj)} {σ' : L2.St} {H' : Hp} {s' : Shared}, Inv (X.blk s3 H3 scope ce fp) pn σ' H' s' → Inv X pins σ H' s' := fun B => I3.call' (ch := fp) B.os B.base B.hok B.bare hfl
  obtain ⟨s4, hs4⟩ : ∃ s4 : Shared, { s3 with heap := pushCells (s3.heap.push { cls := .type "dict", data := .dict #[] }) scope.names } = s4 := ⟨_, rfl⟩
  rw [hs4] at I4 ⊢
  have st4 : tn 0 s4.heap := T.keep _ _ _ st3 fun b _ o e => by rw [← hs4]; exact pushCells_keeps _ _ _ _ (Heap.get?_push_of_some _ e)
  have fpB : ∀ {σ' : L2.St} {H' : Hp} {s' : Shared}, Inv (X.blk s3 H3 scope ce fp) [] σ' H' s' → (∀ b ∈ fp, H' b = none) → ∀ b ∈ fp, FpOk (X.blk s3 H3 scope ce fp) [] H' b := fun {σ' H' s'} B n b hb =>
    ⟨n b hb, (B.ok.exf b hb).1, B.ok.exfs b hb, .inl hb, (B.ok.exf b hb).2, fun p hp => absurd (show p ∈ ([] : List (Addr × Obj)) ++ [] from hp) (by simp)⟩
  have pg : PG (X.blk s3 H3 scope ce fp) (.Name y py) (gName iy) := by
    have hl2 : ce.scope.names.lookup y = some .local := by
      rw [cS]
      exact lookup_relS_keep (by decide) hf
    exact pg_name hN (ok.ix (y, iy) List.mem_cons_self) (.inl hl2) (.inr hl2)
  have loop : codeAny (model X.prog X.w) X.A (.compLoop (.ListComp elt [⟨.Name y py, iter, [], 0⟩] scope pos) 0 (.ref it) (.ref D) ce) (compPost (model X.prog X.w) X.A X.xe none (EP X pins σ Q) (.ref D) s3.heap.objs.size) s4 := by
    refine compLoop_any (fun n s' => ∃ i H', Inv (X.blk s3 H3 scope ce fp) [] (wipe σ [iy]) H' s' ∧ tn i s'.heap ∧ (∀ b ∈ fp, H' b = none) ∧ W i n H') ?_ m0 ⟨0, H3, I4, st4, n3, w0⟩
    rintro n s5 ⟨i, H5, B5, st5, n5, w5⟩
    rcases turn i n H5 w5 with ⟨stop, qq⟩ | ⟨go, Nx, hNx, step⟩
    · refine thnF (T.done (X.blk s3 H3 scope ce fp) rfl rfl rfl hc i [] s5 _ H5 (fun _ _ => False) B5 (fpB B5 n5) st5 stop) fun r s6 ⟨hr, B6⟩ => ?_
      subst hr
      have free : H5 s3.heap.objs.size = none := by rw [← cL]; exact B6.free
      obtain ⟨m, hn, _⟩ := B6.loc
      have hn : s6.heap.Ns s3.heap.objs.size m := by rw [← cL]; exact hn
      have fC := I3.fpOk (Nat.le_refl _) free
      refine ⟨m, hn, fun h'' sb => ⟨.ref D, H5, (back B6).turned (t' := s6.toks) (fun b o hb e => (sb.2 b hb).trans e) fC.1 fC.2.1 fC.2.2.2.1 fC.2.2.2.2.1 fC.2.2.2.2.2, rfl, qq⟩⟩
    · refine thnF (T.item (X.blk s3 H3 scope ce fp) rfl rfl rfl hc i [] s5 _ H5 (fun _ _ => False) B5 (fpB B5 n5) st5 go) fun r s6 ⟨u, hr, h6⟩ => ?_
      subst hr
      refine thnF h6 fun _ s7 ⟨x, H7, B7, r7, y7, st7, n7⟩ => ?_
      have B7' := B7.pinned (fpB B7 n7) (T.obj _ _ st7)
      refine thnF (pg.run _ s7 _ H7 x u (fun σ' H' => σ' = (wipe σ [iy]).set iy (some x) ∧ H' = H7) B7' r7 ⟨rfl, rfl⟩) fun _ s8 ⟨σ8, H8, B8, e8, eH⟩ => ?_
      subst e8 eH
      have hlen : iy < (wipe σ [iy]).length := by
        rw [wipe_length, I3.len]
        exact (List.getElem?_eq_some_iff.mp (ok.ix (y, iy) List.mem_cons_self)).1
      show wpAny _ _ (forIn [] true _) _ _ _
      refine wpAny_tests_nil ?_
      simp only [if_true]
      have hx : ((wipe σ [iy]).set iy (some x))[iy]? = some (some x) := by rw [List.getElem?_set_self hlen]
      refine thnF (el back _ s8 _ H8 x _ B8 hx (step x H8 y7)) fun z s10 ⟨yv, H10, B10, r10, acc, hD10, hz10, nx⟩ => ?_
      refine app_ok (X := X.blk s3 H3 scope ce fp) B10 hD10 hz10 r10 fun s11 B11 => ?_
      obtain ⟨m', hm, w'⟩ := hNx _ nx
      have pin' : ∀ b ∈ fp, ∀ o, s7.heap.get? b = some o → s11.heap.get? b = some o ∧ (upd H10 D (.lst (acc ++ [yv]))) b = none := fun b hb o e =>
        let z := B11.pin (b, o) (List.mem_append_right _ (List.mem_append_right _ (mem_pinsAt hb e)))
        ⟨z.1, z.2.1⟩
      have e1 : ((wipe σ [iy]).set iy (some x)).length = (wipe σ [iy]).length := List.length_set
      refine ⟨m', hm, i + 1, _, (B11.unpinned (pins := [])).weak e1.symm (fun j v e => ?_), T.keep _ _ _ st7 fun b hb o e => (pin' b hb o e).1, fun b hb => ?_, w'⟩
      · have hj : j ≠ iy := fun z => (wipe_some e).2 (by rw [z]; exact List.mem_cons_self)
        rw [List.getElem?_set_ne (Ne.symm hj)]
        exact e
      · obtain ⟨o, e, _⟩ := T.obj _ _ st7 b hb
        exact (pin' b hb o e).2
  exact codeAny_compStart_list loop (T.self X.A 0 _ _ _ st4 loop)
end
end My

end
section
set_option maxRecDepth 100000
set_option maxHeartbeats 4000000
open PySem PySem.Spec PyProof.Rows L2 LamX
namespace My
section
variable {X : Cx} {k j m : Nat} {x y : Str} {TT : TTK}
/-- [g(y) for y in e], each y one of the lambdas of X -/
theorem pe_lcGive {Fam : List LamD} {iy : Nat} {py p p2 p3 : Pos} {iter : Expr} {scope : Scope} {pos : Pos} {wi : TI} (c : ClG X.prog X.w X.K X.mg X.base k x TT) (hr : Room m X.A) (hgd : X.A.guards = some []) (hk : k + 1 ≤ m) (hj : j + 2 ≤ m) (hF : ∀ d ∈ Fam, LamOk X j d)
    (hc : X.calm = true) (hN : X.N.Nodup) (hi : PI X (.Name y py) iter wi) (ok : BlkOk X.N X.env.scope scope [(y, iy)]) (hf : scope.names.lookup y = some .local)
    (hg : ∀ (s : Shared) (H : Hp) (C : Addr) (cl : List (Str × Addr)) (fp : List Addr), Gl (X.blk s H scope (compEnvC scope cl C X.env) fp) x)
    (hdb : (x == ("__debug__" : Str)) = false := by decide) (hd : (y == ("__debug__" : Str)) = false := by decide) (hcd : (y == ("__classdict__" : Str)) = false := by decide) (hs : ∀ x, foldedSetIterable iter X.env x = pure x := by intro _; rfl) :
    PE X (.ListComp (.Call (.Name x p) [.Name y p2] [] p3) [⟨.Name y py, iter, [], 0⟩] scope pos) (tLcI wi fun σ v H Q => ∃ d ∈ Fam, ∃ f, v = .ref f ∧ IsLam X d f H ∧ TT (IsLam X d) (fun E H' Q' => d.t E σ H' Q') f H Q) := by
  obtain ⟨g, st, N, a, oc, od, kV, doc, pm, an, cdv, ct, osl, lk, hcd', hkp, hm, _⟩ := c.ex
  refine pe_lcI hc hN hi ok (.inl hf) hf (fun pins σ C cl fp s3 H3 I3 back pn s' σ' H' v Q B hx z => ?_) hs
  obtain ⟨d, hd', f, rfl, hl, ht⟩ := z
  have hv : Vis (compEnvC scope cl C X.env).scope y := .inl (show (relS scope X.env.scope).names.lookup y = some .local from lookup_relS_keep (by decide) hf)
  have pv : PE (X.blk s3 H3 scope (compEnvC scope cl C X.env) fp) (.Name y p2) (tVar iy) := pe_var (ok.ix (y, iy) List.mem_cons_self) hv hd hcd
  have pa := pa_cons (es := []) pv pa_nil (by rfl)
  refine wpAny_Call_Name_kw (ld_glob (X := X.blk s3 H3 scope (compEnvC scope cl C X.env) fp) B (hg _ _ _ _ _) hm ?_ hdb)
  refine PySem.W.callWith_K (h₀ := X.base) I3.ok.mod.kin hkp (thn (pa.run p3 pn s' σ' H' (fun vs H1 => vs = [.ref f] ∧ H1 = H') B ⟨_, hx, rfl, rfl⟩) ?_) (by rfl) (by rfl)
  rintro us s1 ⟨as, H1, B1, r, rfl, rfl⟩
  refine ⟨B1.kIn, ?_⟩
  cases r with
  | cons r1 r2 =>
    cases r2
    obtain rfl := r1
    obtain ⟨g', hm', _, run⟩ := give_code (f := f) (Q := Q) c hr hgd hk hj (hF d hd')
    have eg : g = g' := by
      rw [hm] at hm'
      exact Value.ref.inj (Option.some.inj hm')
    subst eg
    refine wpAny_call (codeAny_mono (run (back B1) hl ht) fun res s2 hq => ?_)
    match res, hq with
    | .error er, hq => exact False.elim hq
    | .ok (.ret u), hq => exact B1.after (X := X.blk s3 H3 scope (compEnvC scope cl C X.env) fp) hq
    | .ok .next, hq => exact False.elim hq
    | .ok .brk, hq => exact False.elim hq
    | .ok .cont, hq => exact False.elim hq
/-- over a list of things that the block leaves as it is -/
theorem lcI_list {K : PySem.W.Frag} {a : Addr} {xs : List V} {te : L2.St → V → Hp → VK → Prop} {σ : L2.St} {H1 : Hp} {D : Addr} {Qd : Addr → Hp → Prop} (Pv : Nat → Hp → Prop) (h0 : Pv 0 (upd H1 D (.lst []))) (hl : ∀ i H, Pv i H → SqL K H a xs)
    (hs : ∀ i x H, xs[i]? = some x → Pv i H → te σ x H fun y H4 => ∃ acc, H4 D = some (.lst acc) ∧ acc.length < sizeLine ∧ Pv (i + 1) (upd H4 D (.lst (acc ++ [y])))) (hd : ∀ H, Pv xs.length H → Qd D H) :
    ∃ W : Nat → Nat → Hp → Prop, (∃ m, W 0 m (upd H1 D (.lst []))) ∧ ∀ i m H, W i m H →
      ((Itl K a).stop i H ∧ Qd D H) ∨ ((Itl K a).go i H ∧ ∃ Nx : Hp → Prop, (∀ H', Nx H' → ∃ m', m' < m ∧ W (i + 1) m' H') ∧ ∀ x H', (Itl K a).yld i H x H' → te σ x H' fun y H4 => ∃ acc, H4 D = some (.lst acc) ∧ acc.length < sizeLine ∧ Nx (upd H4 D (.lst (acc ++ [y])))) := by
  refine ⟨fun i m H => m = xs.length - i ∧ i ≤ xs.length ∧ Pv i H, ⟨_, rfl, Nat.zero_le _, h0⟩, ?_⟩
  rintro i m H ⟨rfl, hi, p⟩
  have q := hl i H p
  by_cases hlt : i < xs.length
  · refine .inr ⟨⟨xs, xs[i], q, List.getElem?_eq_getElem hlt⟩, Pv (i + 1), fun H' p' => ⟨xs.length - (i + 1), by omega, rfl, hlt, p'⟩, fun x H' y => ?_⟩
    obtain ⟨e, y⟩ := y
    subst e
    exact hs i x _ (y xs q) p
  · have e : i = xs.length := by omega
    subst e
    exact .inl ⟨⟨xs, q, Nat.le_refl _⟩, hd H p⟩
end
end My

end
section
set_option maxRecDepth 100000
set_option maxHeartbeats 4000000
open PySem PySem.Spec PyProof.Rows L2 LamX
namespace My
/-! ### an error kept beyond its except suite -/
def ExK (cls : Value) (d : Option Addr) (a : Addr) : HO := .ext fun h => ∃ (oe : Obj) (vs : Array Value), h.get? a = some oe ∧ Zc cls d oe ∧ oe.data = .fields vs
theorem exK_ok {P : Program} {w : World} {H : Hp} {h : Heap} {a : Addr} {cls : Value} {d : Option Addr} {oe : Obj} {vs : Array Value} (e : h.get? a = some oe) (z : Zc cls d oe) (hd : oe.data = .fields vs) : ObjOk P w H h a (ExK cls d a) :=
  ⟨⟨oe, vs, e, z, hd⟩, ⟨oe, e⟩, fun _ _ ⟨o, v, q, r⟩ k => ⟨o, v, k o q, r⟩⟩
section
variable {X : Cx} {pins : List (Addr × Obj)} {σ : L2.St} {H : Hp} {s : Shared}
/-- what was pinned is tracked from now on -/
theorem track {a : Addr} {oe : Obj} {vs : Array Value} {cls : Value} {d : Option Addr} (I : Inv X ((a, oe) :: pins) σ H s) (h0 : X.s_0.heap.get? a = none) (hp : ∀ p ∈ X.pn ++ pins, p.1 ≠ a) (z : Zc cls d oe) (hd : oe.data = .fields vs) : Inv X pins σ (upd H a (ExK cls d a)) s := by
  obtain ⟨ga, na, nL, nF, nc⟩ := I.pin (a, oe) (List.mem_append_right _ List.mem_cons_self)
  have ne : ∀ {b : Addr} {u : HO}, H b = some u → b ≠ a := fun e => ne_of_none e na
  have at_ : ∀ {b : Addr} {u : HO}, H b = some u → upd H a (ExK cls d a) b = some u := fun e => by rw [upd_ne (ne e)]; exact e
  have B := I.base
  refine ⟨I.ok, I.os, I.bare, ⟨B.keep, B.slot, fun b o e n hx => ?_, B.there, fun b xs e => at_ (B.tups b xs e), fun b o u e => at_ (B.frzs b o u e), fun b ps e => ?_⟩, I.loc, I.cell, ?_, fun y c e => ?_, fun p q => ?_, fun b u e => ?_, I.len⟩
  · rw [upd_ne (fun z => by rw [z, h0] at e; cases e)]
    exact B.free b o e n hx
  · obtain ⟨more, q⟩ := B.tbls b ps e
    exact ⟨more, at_ q⟩
  · rw [upd_ne (Ne.symm nL)]; exact I.free
  · obtain ⟨v, ho⟩ := I.cell y c e
    rw [upd_ne (fun z => ?_)]
    · exact I.freeC y c e
    · obtain ⟨o, e1, e2⟩ := ho
      rw [z, ga] at e1
      cases e1
      exact nc _ e2
  · obtain ⟨g1, g2, g3⟩ := I.pin p (by
      rcases List.mem_append.mp q with q | q
      · exact List.mem_append_left _ q
      · exact List.mem_append_right _ (List.mem_cons_of_mem _ q))
    exact ⟨g1, by rw [upd_ne (hp p q)]; exact g2, g3⟩
  · by_cases hb : b = a
    · subst hb
      rw [upd_same] at e
      cases e
      exact exK_ok ga z hd
    · rw [upd_ne hb] at e
      exact (I.hok b u e).stay (fun _ _ _ q => q) (fun b' q => at_ q) fun b' xs q => at_ q
end
/-- what the clause wishes: the error is of c; it is kept in what the suite stores -/
def wKeep (K : PySem.W.Frag) (c : Value) (i : Nat) (ts : TS) (D : Ends) : WX := fun cls d σ H =>
  PySem.W.exmOne K cls c = some true ∧ ∀ a, H a = none → ts { nx := fun σ' H' => D.nx (σ'.set i none) (upd H' a (ExK cls d a)), rt := fun _ _ => False } (σ.set i (some (.ref a))) H
section
variable {X : Cx} {x n : Str} {c : Value} {i : Nat} {body suite : List Stmt} {b₀ : Stmt} {np pos pos' : Pos} {tb : WX → TS} {ts : TS}
/-- try: body / except x as n: suite, where every error of the body is an x -/
theorem ps_try_keep (hs : X.stack = X.env :: X.outer) (hf : X.env.frame = some X.env.locals) (hex : X.ex = []) (hN : X.N.Nodup) (hi : X.N[i]? = some n) (hln : X.env.kindOf n = some .local) (hc : Names X x c)
    (hb : ∀ (W : WX) (pn : List (Addr × Obj)) (xe : Value → Shared → Prop), Takes (X.tr pn xe) W → PSs (X.tr pn xe) body (tb W))
    (hsu : ∀ (a : Addr) (oe : Obj) (pn : List (Addr × Obj)), PSs (X.suite a ((a, oe) :: pn)) (b₀ :: suite) ts) :
    PS X (.Try body [.ExceptHandler (some (.Name x np)) (some n) (b₀ :: suite) pos'] [] [] pos) (fun D σ H => tb (wKeep X.K c i ts D) D σ H) := by
  refine ⟨fun pins s σ H D I h => ?_⟩
  have ok := I.ok
  have hfr : X.A.frames = some (X.env :: X.outer) := by rw [ok.frames, hs]
  refine wpAny_Try_except ?_
  refine wpAny_mono ((hb (wKeep X.K c i ts D) (X.pn ++ pins) (fun e s₁ => wpAny (model X.prog X.w) X.A (noteFrame e X.env) (fun _ s₂ => wpAny (model X.prog X.w) X.A (setFlight e none) (fun _ s₃ =>
    wpAny (model X.prog X.w) X.A (handleBy e X.env [.ExceptHandler (some (.Name x np)) (some n) (b₀ :: suite) pos']) (SP X pins D) X.xe s₃) X.xe s₂) X.xe s₁) (fun u s' xx => ?_)).run [] s σ H D (I.toTry _) h) (fun f s1 hsp => ?_) (fun e s1 he => he)
  · obtain ⟨a, B, sI, pins', σ', H', cls, d, rfl, J', nb, up, sky, na, os, ag, hb1, hyes⟩ := xx
    have J : Inv X pins σ' H' sI := J'.ofTry ok
    have sky' : Sky B (X.env :: X.outer) a (Zc cls d) X.env.locals s'.heap := by rw [← hs]; exact sky
    show wpAny (model X.prog X.w) X.A (noteFrame (.ref a) X.env) _ _ _
    refine Sky.land Zc.steady hfr hf sky' fun h3 fl3 up3 => ?_
    have J3 : Inv X pins σ' H' { s' with heap := h3 } := J.landed nb fl3.1 (up.trans up3) os ag
    obtain ⟨oe3, vs3, he3, hz3, hd3⟩ := fl3.there
    -- the error's place is new
    have nfr : a ∉ frs (X.env :: X.outer) := fun hm => by
      obtain ⟨_, o', e', hnf⟩ := fl3.2.2.1.mem hm
      rw [he3] at e'
      cases e'
      exact hnf _ hd3
    have nI : sI.heap.get? a = none := by
      cases q : sI.heap.get? a with
      | none => rfl
      | some o =>
        have z := nb a o q (by rw [hs]; exact nfr)
        rw [fl3.2.1] at z
        cases z
    have n0 : X.s_0.heap.get? a = none := by
      cases q : X.s_0.heap.get? a with
      | none => rfl
      | some o =>
        obtain ⟨o', z⟩ := J.base.there a o q (by rw [hex]; simp)
        rw [nI] at z
        cases z
    have np' : ∀ p ∈ X.pn ++ pins, p.1 ≠ a := fun p hp z => by
      have g := (J.pin p hp).1
      rw [z, nI] at g
      cases g
    have nL : a ≠ X.env.locals := fun z => nfr (List.mem_filterMap.mpr ⟨X.env, List.mem_cons_self, by rw [hf, z]⟩)
    have nF : a ∉ X.fs := fun hm => by
      obtain ⟨e, he, q⟩ := List.mem_filterMap.mp hm
      exact nfr (List.mem_filterMap.mpr ⟨e, List.mem_cons_of_mem _ he, q⟩)
    have S3 := J3.suite he3 hd3 na nL nF
    refine wpAny_handleBy_cons (codeAny_handlers_test ?_) (by intro q; cases q)
    have LT : PySem.W.Looks (model X.prog X.w) h3 (typeOf (.ref a)) cls := fun A Q E s k q => wpAny_typeOf_ref (k _ _ he3) (by rw [hz3.1]; exact q)
    have LM := PySem.W.exm_one (M := model X.prog X.w) (J3.kIn) LT hb1
    have test : ∀ {Q : Value → Shared → Prop} {E : Value → Shared → Prop}, Q c { s' with heap := h3 } → wpAny (model X.prog X.w) (X.A.mark (some (.ref a))) (eval (.Name x np) X.env) Q E { s' with heap := h3 } := fun {Q E} q => by
      obtain ⟨hg, hdbg, hm | ⟨hm, hv, hnn⟩⟩ := hc
      · exact ld_glob (X := X.suite a ((a, oe3) :: (X.pn ++ pins))) S3 hg hm q hdbg
      · exact ld_blt (X := X.suite a ((a, oe3) :: (X.pn ++ pins))) S3 hg hm hv q hnn hdbg
    refine test (LM.here (codeAny_handlers_suite_as (HandSPX.lands_againZ fl3 fun h4 fl4 up4 => ?_)))
    have J4 : Inv X pins σ' H' { s' with heap := h4 } := J.landed nb fl4.1 ((up.trans up3).trans up4) os ag
    obtain ⟨oe4, vs4, he4, hz4, hd4⟩ := fl4.there
    have S4 := J4.suite he4 hd4 na nL nF
    refine store_ok (X := X.suite a ((a, oe4) :: (X.pn ++ pins))) (v := .ref a) S4 hN hi (.inl hln) rfl (fun s5 S5 => ?_) (.inr hln)
    refine wpAny_mono ((hsu a oe4 (X.pn ++ pins)).run [] s5 _ H' _ S5 (hyes a na)) (fun f s6 hsp => ?_) (fun _ _ z => False.elim z)
    cases f with
    | next =>
      obtain ⟨σ6, H6, S6, q6⟩ := hsp
      have J6 : Inv X ((a, oe4) :: pins) σ6 H6 s6 := ⟨ok, S6.os, S6.bare, S6.base, S6.loc, S6.cell, S6.free, S6.freeC, fun p hp => S6.pin p (by
        refine List.mem_append_left _ ?_
        rcases List.mem_append.mp hp with q | q
        · exact List.mem_cons_of_mem _ (List.mem_append_left _ q)
        · rcases List.mem_cons.mp q with q | q
          · rw [q]; exact List.mem_cons_self
          · exact List.mem_cons_of_mem _ (List.mem_append_right _ q)), S6.hok, S6.len⟩
      exact gone_ok J6 hN hi hln fun s7 J7 => ⟨_, _, track J7 n0 np' hz4 hd4, q6⟩
    | brk =>
      obtain ⟨_, _, _, q6⟩ := hsp
      exact False.elim q6
    | cont =>
      obtain ⟨_, _, _, q6⟩ := hsp
      exact False.elim q6
    | ret u =>
      obtain ⟨_, _, _, _, _, q6⟩ := hsp
      exact False.elim q6
  · cases f with
    | next =>
      obtain ⟨σ', H', J', q⟩ := hsp
      exact wpAny_execs_nil ⟨σ', H', J'.ofTry ok, q⟩
    | brk =>
      obtain ⟨σ', H', J', q⟩ := hsp
      exact ⟨σ', H', J'.ofTry ok, q⟩
    | cont =>
      obtain ⟨σ', H', J', q⟩ := hsp
      exact ⟨σ', H', J'.ofTry ok, q⟩
    | ret u =>
      obtain ⟨v, σ', H', J', r, q⟩ := hsp
      exact ⟨v, σ', H', J'.ofTry ok, r, q⟩
end
/-! ### isinstance of such an error -/
def rIsX (K : PySem.W.Frag) : List V → Hp → VK → Prop := fun xs H Q => ∃ (a D : Addr) (c : V) (cv : Value) (b : Bool), xs = [.ref a, c] ∧ H a = some (ExK (.ref D) none a) ∧ ExcC K D ∧ (∀ u, RelV c u → u = cv) ∧ PySem.W.kitOne K (.ref D) cv = some b ∧ Q (.bl b) H
theorem call_isX {X : Cx} : CallR X (.builtin "isinstance") (rIsX X.K) := by
  intro pins s σ H xs us Q I r h
  obtain ⟨a, D, c, cv, b, rfl, ha, C, hcv, e, q⟩ := h
  cases r with
  | cons rx rr =>
    cases rr with
    | cons rt rr =>
      cases rr
      cases rx
      have ec := hcv _ rt
      subst ec
      obtain ⟨⟨oe, vs, hget, hz, hv⟩, _⟩ := I.hok a _ ha
      have J : PySem.W.InstAt s.heap a oe D none := by
        obtain ⟨oc, od, oda, osl⟩ := oe
        obtain ⟨h1, h2⟩ := hz
        dsimp only at h1 h2 hv
        subst h1 h2 hv
        exact ⟨hget, rfl, rfl, trivial⟩
      exact PySem.W.kia_one (PySem.W.handS_kitx_exc C.hg C.hk C.hs C.hd C.ha C.hn C.ht C.hm) I.kIn J e (fun z => nomatch z) fun tk => ⟨.bl b, H, I.kept (t' := tk) fun _ _ z => z, rfl, q⟩
end My

end
section
set_option maxRecDepth 100000
set_option maxHeartbeats 4000000
open PySem PySem.Spec PyProof.Rows L2 LamX
namespace My
def rCntB (K : PySem.W.Frag) : V → List V → Hp → VK → Prop := fun x xs H Q => ∃ (p : Addr) (bs : List Bool) (b : Bool), x = .ref p ∧ xs = [.bl b] ∧ SqL K H p (bs.map V.bl) ∧ Q (.int (bs.count b : Nat)) H
theorem dpAll_bools {K : PySem.W.Frag} {H : Hp} : ∀ bs : List Bool, DpAll K H (bs.map V.bl) (bs.map PyData.bool)
  | [] => .nil
  | b :: bs => .cons (.bl b) (dpAll_bools bs)
theorem plain_bools : ∀ bs : List Bool, PyData.plainAll (bs.map PyData.bool) = true
  | [] => rfl
  | b :: bs => by
    simp only [List.map_cons, PyData.plainAll, plain_bools bs]
    rfl
theorem depth_bools : ∀ bs : List Bool, PyData.depthAll (bs.map PyData.bool) = 0
  | [] => rfl
  | b :: bs => by simp only [List.map_cons, PyData.depthAll, PyData.depth, depth_bools bs]; rfl
theorem count_bools (b : Bool) : ∀ bs : List Bool, (bs.map PyData.bool).countP (fun y => PyData.eqv y (.bool b)) = bs.count b
  | [] => rfl
  | c :: bs => by
    rw [List.map_cons, List.countP_cons, List.count_cons, count_bools b bs]
    cases b <;> cases c <;> rfl
theorem mt_countB {X : Cx} (hu : X.A.units + 64 < cLine) : MtR X "list.count" (rCntB X.K) := by
  intro pins s σ H x xs v us Q I rx rxs h
  obtain ⟨p, bs, b, rfl, rfl, hs, q⟩ := h
  cases rx
  obtain ⟨u, rfl, ru⟩ := rxs.one
  obtain rfl := ru
  obtain ⟨its, rv, pl, hlen⟩ := I.list hs
  obtain ⟨as, h4⟩ := Dp.readsAll I (bs.map PyData.bool) _ its (dpAll_bools bs) rv
  refine SeqAt.count_list_data (vs := its.toArray) (as := as) (d := .bool b) pl.isList (show ReadsAll s.heap its.toArray.toList _ as from h4) (Reads.bool b) (plain_bools bs) rfl (by rw [depth_bools]; omega) ?_
  rw [count_bools]
  exact ⟨.int _, H, I.tok _, ⟨_, rfl⟩, q⟩
/-- nothing is promised: never reached -/
theorem pe_no {X : Cx} {e : Expr} : PE X e (fun _ _ _ => False) := ⟨fun _ _ _ _ _ _ z => z.elim⟩
/-! ### the words of errors -/
def errs : List String := ["NoNumber", "NoPrime", "NoPair", "NoPaper", "NoBases", "NoText", "NoLine", "NoName", "NoDeed", "TooGreat"]
def wordsE : List Str := ["number", "prime", "pair", "paper", "bases", "text", "line", "name", "deed"]
structure Kits (K : PySem.W.Frag) (er : String → Addr) (i : Nat) (D : String) : Prop where
  at_ : errs[i]? = some D
  c : ExcC K (er D)
  k : ∀ (j : Nat) (n : String), errs[j]? = some n → PySem.W.kitOne K (.ref (er D)) (.ref (er n)) = some (decide (i = j))
  v : PySem.W.kitOne K (.ref (er D)) (.type "ValueError") = some true
  m : PySem.W.exmOne K (.ref (er D)) (.ref (er "PrimeError")) = some true
/-- _law_word: None, or the word of the error -/
def ttWord (K : PySem.W.Frag) (er : String → Addr) : TTK := fun _ tl _ H Q =>
  ∀ (E2 : XK) (Q2 : VK), (∀ (i : Nat) (D : String) (wd : Str) (H' : Hp), i < 9 → Kits K er i D → wordsE[i]? = some wd → (∀ H'', Same H' H'' → Q (.str wd) H'') → E2 (.ref (er D)) none H') → (∀ v H', Q .non H' → Q2 v H') → tl E2 H Q2
theorem isX {K : PySem.W.Frag} {er : String → Addr} {H : Hp} {Q : VK} {a : Addr} {i j : Nat} {D n : String} (k : Kits K er i D) (h : H a = some (ExK (.ref (er D)) none a)) (e : errs[j]? = some n) (q : Q (.bl (decide (i = j))) H) : rIsX K [.ref a, .ref (er n)] H Q :=
  ⟨a, er D, .ref (er n), .ref (er n), _, rfl, h, k.c, fun u r => r, k.k j n e, q⟩
theorem isXV {K : PySem.W.Frag} {er : String → Addr} {H : Hp} {Q : VK} {a : Addr} {i : Nat} {D : String} (k : Kits K er i D) (h : H a = some (ExK (.ref (er D)) none a)) (q : Q (.bl true) H) : rIsX K [.ref a, .ty "ValueError"] H Q :=
  ⟨a, er D, .ty "ValueError", .type "ValueError", _, rfl, h, k.c, fun u r => r, k.v, q⟩
end My

end
section
set_option maxRecDepth 100000
set_option maxHeartbeats 4000000
open PySem PySem.Spec PyProof.Rows L2 LamX
namespace My
abbrev scrO (vs : List Value) : Obj := { cls := .type "list", data := .seq vs.toArray }
abbrev tabO : Obj := { cls := .none, data := .fields #[] }
/-- the end of a law whose defs make lambdas: cs, their code objects and tables -/
theorem law_callGT {P : Program} {w : World} {K : PySem.W.Frag} {mg mb : Str → Option Value} {k : Nat} {fa a : Addr} {cs : List (Addr × Addr)} {fd : FuncData} {x : Str} {sp : Sp} {s₁ : Shared} {vs : List Value} {ns : List Int}
    (kin : K.In s₁.heap) (hns : s₁.heap.Ns mainGlobals mg) (hb : s₁.heap.Ns builtinsNs mb) (hbb : ∀ x : Str, x ≠ "__name__" → mb x = bootBuiltins x) (hlim : s₁.heap.NoLimit) (hg : s₁.gens = #[])
    (hT : ∀ p ∈ cs, s₁.heap.get? p.2 = some tabO) (nT : ∀ p ∈ cs, K.lookup p.2 = none) (C : ∀ p ∈ cs, PySem.W.CodeHd s₁.heap p.1 p.2)
    (hbm : ∃ (bm : Addr) (ob : Obj), mg "__builtins__" = some (.ref bm) ∧ bm ≠ builtinsNs ∧ s₁.heap.get? bm = some ob ∧ ob.cls = .type "module" ∧ ob.dict = some builtinsNs ∧ ob.data = .plain)
    (ha : s₁.heap.get? a = some (scrO vs)) (hi : IntsAre vs ns) (hl : ns.length ≤ sizeLine) (hr : Room k callerA)
    (F : ∀ base : Heap, K.In base → base.Ns mainGlobals mg → (∀ p ∈ cs, TabB base mg p.1 p.2) → FnG P w K mg base CX0 k fa fd [x] sp) (bd : ∀ (s : Shared) (u : Value), BindsTo s fd ⟨[u], []⟩ [(x, u)])
    (hsp : ∀ H : Hp, (∀ p ∈ cs, H p.2 = some (.tbl #[])) → SqL K H a (ns.map V.int) → sp [.ref a] H (fun v _ => v = .bl true) fun _ _ _ => False) :
    codeAny (model P w) callerA (.call (.ref fa) ⟨[.ref a], []⟩) (fun r s' => r = .ok (.ret (.bool true)) ∧ OldK s₁.heap s'.heap ∧ s'.os = s₁.os ∧ AllBare s'.gens) s₁ := by
  have rv := vals_ints hi
  have ln := hi.length
  have isT : ∀ b : Addr, b ∈ cs.map (·.2) → s₁.heap.get? b = some tabO := fun b q => by
    obtain ⟨p, hp, e⟩ := List.mem_map.mp q
    exact e ▸ hT p hp
  have inT : ∀ p ∈ cs, p.2 ∈ cs.map (·.2) := fun p hp => List.mem_map.mpr ⟨p, hp, rfl⟩
  have aT : a ∉ cs.map (·.2) := fun q => by
    have z := isT a q
    rw [ha] at z
    exact Data.noConfusion (congrArg Obj.data (Option.some.inj z))
  have main : ∀ H : Hp, (∀ p ∈ cs, H p.2 = some (.tbl #[])) → (∀ b u, H b = some u → (b = a ∧ K.lookup a = none ∧ u = .frz (scrO vs) (.lst (ns.map V.int))) ∨ (b ∈ cs.map (·.2) ∧ u = .tbl #[])) → SqL K H a (ns.map V.int) →
      codeAny (model P w) callerA (.call (.ref fa) ⟨[.ref a], []⟩) (fun r s' => r = .ok (.ret (.bool true)) ∧ OldK s₁.heap s'.heap ∧ s'.os = s₁.os ∧ AllBare s'.gens) s₁ := by
    intro H hH hO sq
    have hok : HOk P w H s₁.heap := fun b u q => by
      rcases hO b u q with ⟨e, _, rfl⟩ | ⟨e, rfl⟩
      · rw [e]
        exact ⟨ha, by rw [List.length_map]; exact hl, vs, _, rv, ha⟩
      · exact isT b e
    have out : ∀ {b : Addr} {o : Obj}, s₁.heap.get? b = some o → o ≠ scrO vs → o ≠ tabO → H b = none := fun {b o} e h1 h2 => by
      cases q : H b with
      | none => rfl
      | some u =>
        rcases hO b u q with ⟨z, _⟩ | ⟨z, _⟩
        · rw [z, ha] at e
          exact absurd (Option.some.inj e).symm h1
        · rw [isT b z] at e
          exact absurd (Option.some.inj e).symm h2
    have dict : ∀ {b : Addr} {o : Obj} {es : Array DictEntry} {ep : Nat}, s₁.heap.get? b = some o → o.data = .dict es ep → H b = none := fun {b o es ep} e d =>
      out e (fun z => by rw [z] at d; exact Data.noConfusion d) (fun z => by rw [z] at d; exact Data.noConfusion d)
    have ns2 : ∀ {b : Addr} {m : Str → Option Value}, s₁.heap.Ns b m → (hidT s₁.heap H).Ns b m := fun {b m} ⟨o, es, ep, z1, z2, z3⟩ => ⟨o, es, ep, hidT_get z1 (dict z1 z2), z2, z3⟩
    have kb : K.In (hidT s₁.heap H) := fun b o z => by
      refine hidT_get (kin b o z) ?_
      cases q : H b with
      | none => rfl
      | some u =>
        rcases hO b u q with ⟨e, e2, _⟩ | ⟨e, _⟩
        · rw [e, e2] at z; cases z
        · obtain ⟨p, hp, ep⟩ := List.mem_map.mp e
          rw [← ep, nT p hp] at z
          cases z
    obtain ⟨mc, lm1, lm2⟩ := hlim
    have md : Mod K mg (hidT s₁.heap H) := ⟨kb, ns2 hns, ⟨mb, ns2 hb, hbb⟩, mc, ns2 lm1, lm2⟩
    have tb : ∀ p ∈ cs, TabB (hidT s₁.heap H) mg p.1 p.2 := fun p hp => by
      have hp2 := hT p hp
      refine ⟨?_, ?_, fun z => ?_⟩
      · obtain ⟨o, us, file, tf, flags, tg, inF, text, tt, e1, r1, r2, r⟩ := C p hp
        exact ⟨o, us, file, tf, flags, tg, inF, text, tt, hidT_get e1 (out e1 (fun z => by rw [z] at r2; exact Data.noConfusion r2) (fun z => by rw [z] at r1; cases r1)), r1, r2, r⟩
      · obtain ⟨bm, ob, b1, b2, b3, b4, b5, b6⟩ := hbm
        refine ⟨bm, ob, b1, b2, fun q => ?_, fun q => ?_, hidT_get b3 (out b3 (fun z => by rw [z] at b6; cases b6) (fun z => by rw [z] at b6; cases b6)), b4, b5, b6⟩
        · obtain ⟨o, es, ep, e, hd, _⟩ := hns
          rw [q, e] at b3
          cases b3
          rw [hd] at b6
          cases b6
        · rw [q, hp2] at b3
          cases b3
          cases b6
      · obtain ⟨o, es, ep, e, hd, _⟩ := hns
        rw [z, hp2] at e
        cases e
        cases hd
    have e0 : Env0 P w K mg (hidT s₁.heap H) callerA [] s₁ H := ⟨rfl, md, fun b o z => of_hidT z, Nat.le_of_eq (hidT_size _ _), trivial, (fun b z => nomatch (show b ∈ ([] : List Addr) from z)), hok, .of_eq hg⟩
    refine codeAny_mono ((F _ kb (ns2 hns) tb).run callerA [] s₁ H ⟨[.ref a], []⟩ [.ref a] [.ref a] _ _ hr rfl e0 (bd s₁ (.ref a)) (.cons rfl .nil) (hsp H hH sq)) fun res s' z => ?_
    match res, z with
    | .error e, z => exact False.elim z
    | .ok .next, z => exact False.elim z
    | .ok .brk, z => exact False.elim z
    | .ok .cont, z => exact False.elim z
    | .ok (.ret u), ⟨v, H', os, bare, un, hok', rv', z⟩ =>
      have ev : v = .bl true := z
      subst ev
      obtain rfl : u = Value.bool true := rv'
      have same : ∀ b o, b ∉ cs.map (·.2) → s₁.heap.get? b = some o → s'.heap.get? b = some o := fun b o nb y => by
        cases q : H b with
        | none => exact un.keep b o y q (fun z => nomatch (show b ∈ ([] : List Addr) from z)) (by simp)
        | some u =>
          rcases hO b u q with ⟨e, _, rfl⟩ | ⟨e, _⟩
          · obtain ⟨y1, _⟩ := hok b _ q
            obtain ⟨y2, _⟩ := hok' b _ (un.frzs b _ _ q)
            rw [y] at y1
            cases y1
            exact y2
          · exact absurd e nb
      have grown : ∀ p ∈ cs, ∃ more : Array Value, s'.heap.get? p.2 = some { cls := .none, data := .fields more } := fun p hp => by
        obtain ⟨more, z⟩ := un.tbls p.2 #[] (hH p hp)
        exact ⟨_, hok' p.2 _ z⟩
      refine ⟨rfl, ⟨fun b o e => ?_, fun b o e => ?_⟩, os, bare⟩
      · by_cases q : b ∈ cs.map (·.2)
        · obtain ⟨p, hp, ep⟩ := List.mem_map.mp q
          obtain ⟨more, hm⟩ := grown p hp
          rw [← ep] at e ⊢
          rw [hT p hp] at e
          cases e
          exact .inr (.inl ⟨((C p hp).tab (hT p hp)).isCodeTable, rfl, #[], more, rfl, by rw [Array.empty_append]; exact hm⟩)
        · exact .inl (same b o q e)
      · by_cases q : b ∈ cs.map (·.2)
        · obtain ⟨p, hp, ep⟩ := List.mem_map.mp q
          obtain ⟨more, hm⟩ := grown p hp
          exact ⟨_, ep ▸ hm⟩
        · exact ⟨o, same b o q e⟩
  by_cases hk : K.lookup a = none
  · refine main (fun b => if b = a then some (.frz (scrO vs) (.lst (ns.map V.int))) else if b ∈ cs.map (·.2) then some (.tbl #[]) else none) (fun p hp => ?_) (fun b u q => ?_) (.inl (.inr ⟨scrO vs, if_pos rfl⟩))
    · have n : ¬ p.2 = a := fun z => aT (z ▸ inT p hp)
      exact (if_neg n).trans (if_pos (inT p hp))
    · by_cases h1 : b = a
      · exact .inl ⟨h1, hk, (Option.some.inj ((if_pos h1).symm.trans q)).symm⟩
      · have q2 := (if_neg h1).symm.trans q
        by_cases h2 : b ∈ cs.map (·.2)
        · exact .inr ⟨h2, (Option.some.inj ((if_pos h2).symm.trans q2)).symm⟩
        · exact nomatch (if_neg h2).symm.trans q2
  · obtain ⟨o, ho⟩ := Option.ne_none_iff_exists'.mp hk
    have z := kin a o ho
    rw [ha] at z
    cases z
    refine main (fun b => if b ∈ cs.map (·.2) then some (.tbl #[]) else none) (fun p hp => if_pos (inT p hp)) (fun b u q => ?_) (Or.inr ⟨_, vs.toArray, _, ho, rfl, rfl, rfl, by rw [List.size_toArray, ln]; exact hl, by simpa using rv⟩)
    by_cases h2 : b ∈ cs.map (·.2)
    · exact .inr ⟨h2, (Option.some.inj ((if_pos h2).symm.trans q)).symm⟩
    · exact nomatch (if_neg h2).symm.trans q
theorem walk_ofGT {l : PySem.W.OpenLaw} {n k : Nat} {q : Program} {loose : List Str} {XP : (Str → Option Value) → Heap → Prop} {YP : World → Heap → Prop} {d : DefRec} {K : Params → PySem.W.Frag} {x : Str}
    (hn : l.most = some n) (hn2 : n ≤ sizeLine) (hdf : d.params.defaults = []) (hr : Room k callerA)
    (hY : ∀ (w : World) (h : Heap), YP w h → (K w.params).In h)
    (F : ∀ (w : World) (mg : Str → Option Value) (fa : Addr) (h : Heap), YP w h → (K w.params).In h → h.Ns mainGlobals mg → mg d.name = some (.ref fa) →
      ∃ (fd : FuncData) (cs : List (Addr × Addr)) (sp : Sp), (∀ p ∈ cs, h.get? p.2 = some tabO) ∧ (∀ p ∈ cs, (K w.params).lookup p.2 = none) ∧ (∀ p ∈ cs, PySem.W.CodeHd h p.1 p.2) ∧ (∀ (s : Shared) (u : Value), BindsTo s fd ⟨[u], []⟩ [(x, u)]) ∧
        (∀ (H : Hp) (a : Addr) (ns : List Int), ns.length ≤ n → (∀ p ∈ cs, H p.2 = some (.tbl #[])) → SqL (K w.params) H a (ns.map V.int) → sp [.ref a] H (fun v _ => v = .bl true) fun _ _ _ => False) ∧
        ∀ base : Heap, (K w.params).In base → base.Ns mainGlobals mg → (∀ p ∈ cs, TabB base mg p.1 p.2) → FnG l.prog w (K w.params) mg base CX0 k fa fd [x] sp) :
    PySem.W.WalkO q loose XP YP l.row.toRowW d [] (fun f vs => PySem.call f vs) := by
  refine Att.attach_callB hn hdf fun w s₀ s₁ mg mb fa o pm cd doc a vs ns G Y ho hd hcd hmg hobj hints hlen hbits hg => ?_
  obtain ⟨fd, cs, sp, hT, nT, C, bd, hsp, hF⟩ := F w mg fa _ Y (hY w _ Y) G.T.g hmg
  exact law_callGT (hY w _ Y) G.T.g G.T.b G.T.builtins G.T.nolimit hg hT nT C G.T.bmain hobj hints (Nat.le_trans hlen hn2) hr hF bd (fun H hH hS => hsp H a ns hlen hH hS)
end My

end
section
set_option maxRecDepth 100000
set_option maxHeartbeats 4000000
open PySem PySem.Spec PyProof.Rows L2 LamX
namespace My
/-! ### the lambdas of a def's text, in order -/
def lamsE : Nat → Expr → List (Arguments × Expr × Scope)
  | 0, _ => []
  | n + 1, .Lambda a b s _ => [(a, b, s)]
  | n + 1, .List es _ => es.flatMap (lamsE n)
  | n + 1, .Tuple es _ _ => es.flatMap (lamsE n)
  | n + 1, .Call f as _ _ => lamsE n f ++ as.flatMap (lamsE n)
  | n + 1, .BinOp l _ r _ => lamsE n l ++ lamsE n r
  | n + 1, .Compare l _ rs _ => lamsE n l ++ rs.flatMap (lamsE n)
  | n + 1, .BoolOp _ vs _ => vs.flatMap (lamsE n)
  | n + 1, .UnaryOp _ o _ => lamsE n o
  | n + 1, .IfExp t b e _ => lamsE n t ++ lamsE n b ++ lamsE n e
  | n + 1, .Subscript v s _ => lamsE n v ++ lamsE n s
  | n + 1, .Attribute v _ _ => lamsE n v
  | n + 1, .ListComp e _ _ _ => lamsE n e
  | _ + 1, _ => []
def lamsS : Nat → Stmt → List (Arguments × Expr × Scope)
  | 0, _ => []
  | n + 1, .FunctionDef _ _ b _ _ _ _ _ _ _ => b.flatMap (lamsS n)
  | n + 1, .Assign _ v _ => lamsE n v
  | n + 1, .Expr v _ => lamsE n v
  | n + 1, .Return (some v) _ => lamsE n v
  | n + 1, .For _ i b _ _ => lamsE n i ++ b.flatMap (lamsS n)
  | n + 1, .While t b _ _ => lamsE n t ++ b.flatMap (lamsS n)
  | n + 1, .If t b o _ => lamsE n t ++ b.flatMap (lamsS n) ++ o.flatMap (lamsS n)
  | _ + 1, _ => []
def lamP (st : Stmt) (i : Nat) : Arguments × Expr × Scope := (lamsS 30 st).getD i (⟨[], [], none, [], [], none, []⟩, .Name (Str.ofString "") ⟨0, 0, 0, 0⟩, defScope st)
abbrev lamD (st : Stmt) (i : Nat) (t : XK → TE) : LamD := ⟨(lamP st i).1, (lamP st i).2.1, (lamP st i).2.2, t⟩
/-- what a def that makes lambdas asks of its code object -/
structure TabD (base : Heap) (mg : Str → Option Value) (fd : FuncData) (c P : Addr) : Prop where
  code : fd.code = .ref c
  tab : TabB base mg c P
abbrev lq (x : Str) : Str := x ++ ".<locals>." ++ "<lambda>"
/-- the law itself, with the tables T -/
def spLawT (K : PySem.W.Frag) (T : List (Addr × Str)) : Sp := fun vs H Q _ => ∃ (a : Addr) (ns : List Int), vs = [.ref a] ∧ SqL K H a (ns.map V.int) ∧ ns.length ≤ 63 ∧ Tabs T H ∧ ∀ H', Q (.bl true) H'
theorem SqL.extN {K : PySem.W.Frag} {H H' : Hp} {a : Addr} {xs : List V} (h : SqL K H a xs) (e : ExtN H H') : SqL K H' a xs := by
  rcases h with (h | ⟨o, h⟩) | h
  · exact .inl (.inl (e _ _ h fun _ z => by cases z))
  · exact .inl (.inr ⟨o, e _ _ h fun _ z => by cases z⟩)
  · exact .inr h
theorem StAt.extN {H H' : Hp} {a : Addr} (h : StAt H a) (e : ExtN H H') : StAt H' a := by
  obtain ⟨x, y, q, r⟩ := h
  exact ⟨x, y, e _ _ q (fun _ z => by cases z), r⟩
end My
namespace My
theorem pe_cast {X : Cx} {e : Expr} {t t' : TE} (p : PE X e t) (h : t = t') : PE X e t' := h ▸ p
end My

end
section
set_option maxRecDepth 100000
open PySem L2 NT LamX
namespace My
/-! ### the promises of the laws that count with bits -/
def bval (bs : List Nat) : Nat := bs.foldl (fun f b => 2 * f + b) 0
theorem bval_snoc (bs : List Nat) (b : Nat) : bval (bs ++ [b]) = 2 * bval bs + b := by simp [bval, List.foldl_append]
/-- what the loop over the bits, the lowest ahead, has found -/
def rval : List Nat → Nat
  | [] => 0
  | b :: r => b + 2 * rval r
theorem bval_rev : ∀ bs : List Nat, bval bs.reverse = rval bs
  | [] => rfl
  | b :: r => by rw [List.reverse_cons, bval_snoc, bval_rev r, rval]; omega
theorem rval_snoc (b : Nat) : ∀ bs : List Nat, rval (bs ++ [b]) = rval bs + 2 ^ bs.length * b
  | [] => by simp [rval]
  | c :: r => by
    rw [List.cons_append, rval, rval_snoc b r, rval, List.length_cons, Nat.pow_succ, Nat.mul_add, Nat.mul_assoc, Nat.mul_comm (2 ^ r.length) (2 * b), Nat.mul_assoc, Nat.mul_comm b]
    omega
def spBits : Sp := fun vs H Q _ => ∃ o : Nat, vs = [.int o] ∧ o < 2 ^ 200 ∧ ∀ p bs H', H p = none → Same H H' → H' p = some (.lst (bs.map fun b : Nat => V.int b)) → bval bs = o → (∀ b ∈ bs, b = 0 ∨ b = 1) → bs.length ≤ 200 → Q (.ref p) H'
def spPowB : Sp := fun vs H Q _ => ∃ (b n : Int) (o : Nat), vs = [.int b, .int o, .int n] ∧ o < 2 ^ 200 ∧ 0 < n ∧ n < 2 ^ 110 ∧ -(2 ^ 120) < b ∧ b < 2 ^ 120 ∧ ∀ H', Same H H' → Q (.int (b ^ o % n)) H'
/-- _law_none: no number between -/
def spNone (K : PySem.W.Frag) : Sp := fun vs H Q _ => ∃ (a : Addr) (lo hi : Int), vs = [.ref a, .int lo, .int hi] ∧ StAt H a ∧ -(10 ^ 50) < lo ∧ lo ≤ hi ∧ hi < 10 ^ 50 ∧ ∀ v H', Kd K H' v → inR v lo hi = false → (∀ b, v = .ref b → b ≠ a ∧ H b = none) → Draw a H H' → Q v H'
/-- _law_same of two plain things that are alike -/
def spSame0 : Sp := fun vs H Q _ => ∃ v, vs = [v, v] ∧ ((∃ i, v = .int i) ∨ (∃ b, v = .bl b) ∨ v = .non ∨ ∃ s, v = .str s) ∧ ∀ H', Same H H' → Q (.bl true) H'
theorem Ty.extN {K : PySem.W.Frag} {H H' : Hp} {v : V} {t : String} (h : Ty K H v t) (e : ExtN H H') : Ty K H' v t := by
  cases h with
  | non => exact .non
  | bl b => exact .bl b
  | int i => exact .int i
  | str x => exact .str x
  | lst h => exact .lst (e _ _ h fun _ z => by cases z)
  | tup h => exact .tup (e _ _ h fun _ z => by cases z)
  | dK h => exact .dK (e _ _ h fun _ z => by cases z)
theorem Kd.extN {K : PySem.W.Frag} {H H' : Hp} {v : V} (h : Kd K H v) (e : ExtN H H') : Kd K H' v := by
  obtain ⟨t, h⟩ := h
  exact ⟨t, h.extN e⟩
theorem Kd.same {K : PySem.W.Frag} {H H' : Hp} {v : V} (h : Kd K H v) (e : Same H H') : Kd K H' v := h.extN (.of fun _ _ q => e _ _ q)
theorem Kd.draw {K : PySem.W.Frag} {H H' : Hp} {a : Addr} {v : V} (h : Kd K H v) (n : ∀ b, v = .ref b → b ≠ a) (D : Draw a H H') : Kd K H' v := by
  obtain ⟨t, h⟩ := h
  cases h with
  | non => exact ⟨_, .non⟩
  | bl b => exact ⟨_, .bl b⟩
  | int i => exact ⟨_, .int i⟩
  | str x => exact ⟨_, .str x⟩
  | lst h => exact ⟨_, .lst (D.keep h (n _ rfl))⟩
  | tup h => exact ⟨_, .tup (D.keep h (n _ rfl))⟩
  | dK h => exact ⟨_, .dK (D.keep h (n _ rfl))⟩
end My
namespace My
theorem isiTL {K : PySem.W.Frag} {H : Hp} {v : V} {t : String} {tp : Addr} {Q : VK} (h : Ty K H v t) (e : H tp = some (.tup [.ty "tuple", .ty "list"])) (q : Q (.bl (t == "tuple" || t == "list")) H) : rIsiT K [v, .ref tp] H Q :=
  ⟨v, tp, _, .type t, [.type "tuple", .type "list"], _, rfl, e, .cons (.ty _) (.cons (.ty _) .nil), h.x, kitAny_cons h.kTup (fun z => kitAny_cons h.kLst (fun y => by
    rw [z, y]; rfl) (fun y => by rw [z, y]; rfl)) (fun z => by rw [z]; rfl), q⟩
end My

end
section
set_option maxRecDepth 100000
open PySem L2 NT LamX
namespace My
theorem tabs_nl {T : List (Addr × Str)} {H H' : Hp} (t : Tabs T H) (e : NL H H') : Tabs T H' := fun p hp => by
  obtain ⟨ps, h1, h2, h3⟩ := t p hp
  refine ⟨ps, e _ _ h1 (fun _ z => by cases z), h2, fun pos cv hc => ?_⟩
  obtain ⟨c, e1, e2⟩ := h3 pos cv hc
  exact ⟨c, e1, e _ _ e2 fun ys z => by unfold CodeO at z; cases z⟩
theorem tabs_same {T : List (Addr × Str)} {H H' : Hp} (t : Tabs T H) (e : Same H H') : Tabs T H' := t.ext fun _ _ q => e _ _ q
theorem isLam_nl {X : Cx} {d : LamD} {f : Addr} {H H' : Hp} (h : IsLam X d f H) (e : NL H H') : IsLam X d f H' := by
  obtain ⟨pm, ctv, c', a, b⟩ := h
  exact ⟨pm, ctv, c', e _ _ a (fun ys z => by unfold LamO at z; cases z), e _ _ b fun ys z => by unfold CodeO at z; cases z⟩
theorem extN_of {H H' : Hp} (s : Same H H') : ExtN H H' := .of fun _ _ q => s _ _ q
/-- an object that was not there is written -/
theorem extN_upd {H H' : Hp} {p : Addr} {o : HO} (e : ExtN H H') (n : H p = none) : ExtN H (upd H' p o) := fun b u q z => by
  rw [upd_ne (ne_of_none q n)]
  exact e b u q z
theorem badRaised {K : PySem.W.Frag} {er : String → Addr} {H : Hp} {Q : VK} {E : XK} {vb vo vn : V} (h1 : Kd K H vb) (h2 : Kd K H vo) (h3 : Kd K H vn) (h : (inR vb (-BIG) BIG && inR vo 0 BIG && inR vn 1 BIG) = false) (e : E (.ref (er "NoNumber")) none H) : spRaised K er [vb, vo, vn] H Q E :=
  ⟨vb, vo, vn, rfl, h1, h2, h3, (fun b o n e1 e2 e3 b1 b2 o1 o2 n1 n2 => by
    rw [e1, e2, e3, inR_ok b1 b2, inR_ok o1 o2, inR_ok n1 n2] at h
    cases h), fun _ => e⟩
theorem dp_strs {K : PySem.W.Frag} {H : Hp} (x : Str) : ∀ n : Nat, DpAll K H (List.replicate n (V.str x)) (List.replicate n (PyData.str x))
  | 0 => .nil
  | n + 1 => .cons (.str x) (dp_strs x n)
end My
namespace My
theorem tLcI_list {K : PySem.W.Frag} {te : L2.St → V → Hp → VK → Prop} {j : Nat} {p : Addr} {xs : List V} {σ : L2.St} {H : Hp} {Q : VK} (hj : σ[j]? = some (some (.ref p))) (hp : SqL K H p xs)
    (h : ∀ D, H D = none → ∃ Pv : Nat → Hp → Prop, Pv 0 (upd H D (.lst [])) ∧ (∀ i H', Pv i H' → SqL K H' p xs) ∧
      (∀ i x H', xs[i]? = some x → Pv i H' → te σ x H' fun y H4 => ∃ acc, H4 D = some (.lst acc) ∧ acc.length < sizeLine ∧ Pv (i + 1) (upd H4 D (.lst (acc ++ [y])))) ∧ ∀ H', Pv xs.length H' → Q (.ref D) H') : tLcI (iList K (tVar j)) te σ H Q := by
  refine ⟨_, hj, p, rfl, ⟨xs, hp⟩, fun D hD => ?_⟩
  obtain ⟨Pv, h0, hl, hs, hd⟩ := h D hD
  exact lcI_list (Qd := fun D H => Q (.ref D) H) Pv h0 hl hs hd
end My
namespace My
theorem iteF' {b : Bool} {A B : Prop} (e : b = false) (h : B) : if b = true then A else B := by rw [if_neg (by rw [e]; exact Bool.false_ne_true)]; exact h
end My
namespace My
theorem dp_ints {K : PySem.W.Frag} {H : Hp} : ∀ ns : List Int, DpAll K H (ns.map V.int) (ns.map PyData.int)
  | [] => .nil
  | n :: ns => .cons (.int n) (dp_ints ns)
end My

end
set_option Elab.async false
set_option linter.all false
set_option maxRecDepth 100000
set_option maxHeartbeats 4000000
namespace My
open PySem L2 NT LamX
local macro_rules | `(tactic| walk_at "rd") => `(tactic| simp only [tSeq, tAsg, tOp, tVar, tC, tIfS, tTest, tRet, tRetN, tNext, tDrop, tB, tAnd, tOr, tNot, tNotV, tAndV, tOrV, tIf, tUn, tPar, tPar3, tNever, tBreak, tCont, gName, gNil, gCons, gTup, gSub, L2.start, rI0, rI, rU, rEq, rNe, tCons, tNil, tCl, tCB, tBM, tBM0, tTup, tLst, rAppend, cxK, rIsB, rNotB, cp10, sizeLine_eq, Int.zero_add, Int.reduceToNat, Int.reducePow, Int.reduceNeg, Int.reduceSub, Int.reduceAdd, Int.reduceMul, Int.reduceLT, Int.reduceLE, Nat.reduceLeDiff, Nat.reduceLT, tChain, sc_ii, sc_ss, sc_bb, sc_nn, sc_ni, sc_in, sc_nb, sc_bn, sc_ns, sc_sn, List.length_cons, List.length_nil, List.length, List.replicate, List.map, List.append_nil, List.nil_append, List.cons_append, List.getElem?_cons_zero, List.getElem?_cons_succ, List.set_cons_zero, List.set_cons_succ, wipe, Option.some.injEq, V.int.injEq, V.bl.injEq, V.str.injEq, V.ref.injEq, List.cons.injEq, exists_eq_left', exists_eq_left, exists_eq_right, exists_eq_right', exists_and_left, exists_and_right, and_true, true_and, exists_const, exists_prop, Nat.reduceSub, Nat.reduceAdd, and_assoc, reduceCtorEq, false_and, and_false, exists_false, false_or, or_false, Bool.not_true, Bool.not_false, if_true, if_false, Bool.false_eq_true, decide_true, decide_false])
local macro_rules | `(tactic| walk_at "om") => `(tactic| (simp only [BIG] at *; omega))
def top (i : Nat) : Stmt := PySem.Challenge.pw_primepapers_k01_powers_of_rests.main.body.getD i (.Pass ⟨0, 0, 0, 0⟩)
section
variable {P : Program} {w : World} {K : PySem.W.Frag} {mg : Str → Option Value} {base : Heap} {er : String → Addr}
abbrev s_is_whole : Stmt := top 14
theorem sc_is_whole : FnScope ["thing"] ["thing"] (defScope s_is_whole) := ⟨rfl, rfl, rfl, by decide +kernel, rfl, by decide +kernel, by decide +kernel⟩
theorem ok_is_whole {f : Addr} {fd : FuncData} (F : Fun K "is_whole" "is_whole" s_is_whole f fd) (z_bool : mg "bool" = none) (z_int : mg "int" = none) (z_isinstance : mg "isinstance" = none) : FnG P w K mg base CX0 1 f fd ["thing"] (spIsWhole K) := by
  refine fnG0 F sc_is_whole (fun vs H Q E h => ?_) (fun cdv A outer s H vs Q E hr hgd h => ?_)
  · obtain ⟨v, rfl, _⟩ := h
    rfl
  · obtain ⟨v, rfl, ⟨t, ht⟩, q⟩ := h
    have nd := sc_is_whole.nd
    refine ⟨_, (pss_one (ps_ret (pe_and (pe_callB call_isi (by rfl) z_isinstance (by decide +kernel) (pa_cons (pv 0) (pa_cons (pe_bltn (v := .ty "int") (by rfl) z_int (by decide +kernel) rfl) pa_nil))) (pe_one (pe_not (pe_callB call_isi (by rfl) z_isinstance (by decide +kernel) (pa_cons (pv 0) (pa_cons (pe_bltn (v := .ty "bool") (by rfl) z_bool (by decide +kernel) rfl) pa_nil)))))))), ?_⟩
    walk_at "rd"
    refine isi ht ht.kInt ?_
    refine ⟨_, rfl, ?_⟩
    cases hv : isI v with
    | true =>
      refine iteT ?_
      refine isi ht ht.kBool ⟨_, rfl, ?_⟩
      have : isB v = false := by cases v <;> first | rfl | cases hv
      rw [this]
      rw [hv] at q
      exact q
    | false =>
      rw [hv] at q
      rw [Bool.false_or]
      cases hb : isB v with
      | true =>
        refine iteT ?_
        refine isi ht ht.kBool ⟨_, rfl, ?_⟩
        rw [hb]
        exact q
      | false => exact iteF q
abbrev s_is_between : Stmt := top 15
theorem sc_is_between : FnScope ["thing", "low", "high"] ["thing", "low", "high"] (defScope s_is_between) := ⟨rfl, rfl, rfl, by decide +kernel, rfl, by decide +kernel, by decide +kernel⟩
theorem ok_is_between {f : Addr} {fd : FuncData} (F : Fun K "is_between" "is_between" s_is_between f fd) (c_is_whole : Cl P w K mg base CX0 1 "is_whole" (spIsWhole K)) : FnG P w K mg base CX0 2 f fd ["thing", "low", "high"] (spIsBetween K) := by
  refine fnG0 F sc_is_between (fun vs H Q E h => ?_) (fun cdv A outer s H vs Q E hr hgd h => ?_)
  · obtain ⟨v, lo, hi, rfl, _⟩ := h
    rfl
  · obtain ⟨v, lo, hi, rfl, ht, q⟩ := h
    have nd := sc_is_between.nd
    refine ⟨_, (pss_one (ps_ret (pe_and (pe_cl c_is_whole hr hgd (by decide) rfl (pa_cons (pv 0) pa_nil)) (pe_one (pe_chain op_le op_le (pv 1) (pv 0) (pv 2)))))), ?_⟩
    walk_at "rd"
    refine ⟨v, rfl, ht, _, rfl, ?_⟩
    cases v with
    | int i =>
      refine iteT ⟨i, rfl, decB (fun h1 => ⟨i, rfl, ?_⟩) (fun h1 => ?_)⟩
      · simp only [inR, h1, decide_true, Bool.true_and] at q
        exact q
      · simp only [inR, h1, decide_false, Bool.false_and] at q
        exact q
    | _ => exact iteF q
abbrev s_need_between : Stmt := top 16
theorem sc_need_between : FnScope ["thing", "low", "high"] ["thing", "low", "high"] (defScope s_need_between) := ⟨rfl, rfl, rfl, by decide +kernel, rfl, by decide +kernel, by decide +kernel⟩
theorem ok_need_between {f : Addr} {fd : FuncData} (F : Fun K "need_between" "need_between" s_need_between f fd) (c_is_between : Cl P w K mg base CX0 2 "is_between" (spIsBetween K)) (x_NoNumber : EC K mg "NoNumber" (er "NoNumber")) : FnG P w K mg base (L2.CX P w) 3 f fd ["thing", "low", "high"] (spNeed K er) := by
  refine fnG F sc_need_between (fun vs H Q E h => ?_) (fun cdv A outer s H vs Q E hr hgd h => ?_)
  · obtain ⟨v, lo, hi, rfl, _⟩ := h
    rfl
  · obtain ⟨v, lo, hi, rfl, ht, q1, q2⟩ := h
    have nd := sc_need_between.nd
    refine ⟨_, (pss_one (ps_if (pt_not (pt_val (pe_cl c_is_between hr hgd (by decide) rfl (pa_cons (pv 0) (pa_cons (pv 1) (pa_cons (pv 2) pa_nil))))))
        (pss_one (ps_raise rfl (takes_of rfl rfl rfl rfl) (pmk_own PySem.F.excBase_ValueError x_NoNumber.q x_NoNumber.g x_NoNumber.k (raises_own x_NoNumber.b x_NoNumber.t) rfl)))
        pss_nil)), ?_⟩
    walk_at "rd"
    refine ⟨v, lo, hi, rfl, ht, _, rfl, ?_⟩
    cases e : inR v lo hi with
    | true => exact iteF (q1 e)
    | false => exact iteT (q2 e)
abbrev s_need_number : Stmt := top 17
theorem sc_need_number : FnScope ["n"] ["n"] (defScope s_need_number) := ⟨rfl, rfl, rfl, by decide +kernel, rfl, by decide +kernel, by decide +kernel⟩
theorem ok_need_number {f : Addr} {fd : FuncData} (F : Fun K "need_number" "need_number" s_need_number f fd) (c_need_between : Cl P w K mg base (L2.CX P w) 3 "need_between" (spNeed K er)) {t_MOST : Tok} (m_MOST : mg "MOST" = some (.int 1000000000000000000000000000000 t_MOST)) : FnG P w K mg base (L2.CX P w) 4 f fd ["n"] (spNeed1 K er 1 BIG) := by
  refine fnG F sc_need_number (fun vs H Q E h => ?_) (fun cdv A outer s H vs Q E hr hgd h => ?_)
  · obtain ⟨v, rfl, _⟩ := h
    rfl
  · obtain ⟨v, rfl, ht, q1, q2⟩ := h
    have nd := sc_need_number.nd
    refine ⟨_, (pss_one (ps_expr (pe_clx (takes_of rfl rfl rfl rfl) (fun _ _ _ _ h => h) c_need_between hr hgd (by decide) rfl (pa_cons (pv 0) (pa_cons pe_int (pa_cons (pe_gi rfl m_MOST) pa_nil)))))), ?_⟩
    walk_at "rd"
    exact ⟨v, 1, BIG, rfl, ht, q1, q2⟩
abbrev s_need_far : Stmt := top 18
theorem sc_need_far : FnScope ["number"] ["number"] (defScope s_need_far) := ⟨rfl, rfl, rfl, by decide +kernel, rfl, by decide +kernel, by decide +kernel⟩
theorem ok_need_far {f : Addr} {fd : FuncData} (F : Fun K "need_far" "need_far" s_need_far f fd) (c_need_between : Cl P w K mg base (L2.CX P w) 3 "need_between" (spNeed K er)) {t_MOST : Tok} (m_MOST : mg "MOST" = some (.int 1000000000000000000000000000000 t_MOST)) : FnG P w K mg base (L2.CX P w) 4 f fd ["number"] (spNeed1 K er (-BIG) BIG) := by
  refine fnG F sc_need_far (fun vs H Q E h => ?_) (fun cdv A outer s H vs Q E hr hgd h => ?_)
  · obtain ⟨v, rfl, _⟩ := h
    rfl
  · obtain ⟨v, rfl, ht, q1, q2⟩ := h
    have nd := sc_need_far.nd
    refine ⟨_, (pss_one (ps_expr (pe_clx (takes_of rfl rfl rfl rfl) (fun _ _ _ _ h => h) c_need_between hr hgd (by decide) rfl (pa_cons (pv 0) (pa_cons (pe_op op_sub pe_int (pe_gi rfl m_MOST)) (pa_cons (pe_gi rfl m_MOST) pa_nil)))))), ?_⟩
    walk_at "rd"
    exact ⟨v, -BIG, BIG, rfl, ht, q1, q2⟩
abbrev s_power_of : Stmt := top 19
theorem sc_power_of : FnScope ["base", "often", "n", "found", "square", "left"] ["base", "often", "n"] (defScope s_power_of) := ⟨rfl, rfl, rfl, by decide +kernel, rfl, by decide +kernel, by decide +kernel⟩
theorem ok_power_of {f : Addr} {fd : FuncData} (F : Fun K "power_of" "power_of" s_power_of f fd)  : FnG P w K mg base CX0 1 f fd ["base", "often", "n"] (spPow) := by
  refine fnG0 F sc_power_of (fun vs H Q E h => ?_) (fun cdv A outer s H vs Q E hr hgd h => ?_)
  · obtain ⟨b, o, n, rfl, _⟩ := h
    rfl
  · obtain ⟨b, o, n, rfl, ho, hn, hm, q⟩ := h
    have nd := sc_power_of.nd
    refine ⟨_, (pss_cons (ps_set (i := 3) nd rfl (.inl rfl) (pe_op op_mod pe_int (pv 2)))
      (pss_cons (ps_set (i := 4) nd rfl (.inl rfl) (pe_op op_mod (pv 0) (pv 2)))
      (pss_cons (ps_set (i := 5) nd rfl (.inl rfl) (pv 1))
      (pss_cons (ps_while PassesOwn.never (pt_cmpR op_gt (pv 5) pe_int (nomark _))
        (pss_cons (ps_if (pt_cmpR op_eq (pe_op op_mod (pv 5) pe_int) pe_int (nomark _))
            (pss_one (ps_set (i := 3) nd rfl (.inl rfl) (pe_op op_mod (pe_op op_mulW (pv 3) (pv 4)) (pv 2))))
            pss_nil)
          (pss_cons (ps_set (i := 4) nd rfl (.inl rfl) (pe_op op_mod (pe_op op_mulW (pv 4) (pv 4)) (pv 2)))
          (pss_one (ps_set (i := 5) nd rfl (.inl rfl) (pe_op op_fdivW (pv 5) pe_int))))))
      (pss_one (ps_ret (pv 3))))))), ?_⟩
    walk_at "rd"
    refine ⟨hn, hn, ?_⟩
    obtain ⟨W, hW⟩ : ∃ W : Nat → L2.St → Hp → Prop, W = fun m σ H' => ∃ f s l : Int, m = l.toNat ∧ σ = [some (V.int b), some (V.int o), some (V.int n), some (V.int f), some (V.int s), some (V.int l)] ∧ H' = H ∧ 0 ≤ l ∧ 0 ≤ f ∧ f < n ∧ 0 ≤ s ∧ s < n ∧ f * s ^ l.toNat % n = b ^ o.toNat % n := ⟨_, rfl⟩
    have mk : ∀ f s l : Int, 0 ≤ l → 0 ≤ f → f < n → 0 ≤ s → s < n → f * s ^ l.toNat % n = b ^ o.toNat % n → W l.toNat [some (V.int b), some (V.int o), some (V.int n), some (V.int f), some (V.int s), some (V.int l)] H :=
      fun f s l h1 h2 h3 h4 h5 h6 => by rw [hW]; exact ⟨f, s, l, rfl, rfl, rfl, h1, h2, h3, h4, h5, h6⟩
    refine ⟨W, ⟨_, mk _ _ _ ho (Int.emod_nonneg _ (by omega)) (Int.emod_lt_of_pos _ hn) (Int.emod_nonneg _ (by omega)) (Int.emod_lt_of_pos _ hn) (PowN.start _ _ _)⟩, fun m σ H' h => ?_⟩
    rw [hW] at h
    obtain ⟨f, s, l, rfl, rfl, rfl, hl, f0, f1, s0, s1, inv⟩ := h
    walk_at "rd"
    have b200 : (2:Int) ^ 200 ≤ 2 ^ 250 := by decide
    have ok : ∀ x y : Int, 0 ≤ x → x < n → 0 ≤ y → y < n → CMulW x y := fun x y h1 h2 h3 h4 => mulOk ⟨by omega, by omega⟩ ⟨by omega, by omega⟩
    refine decB (fun hl0 => ?_) (fun hl0 => ?_)
    · refine ⟨_, fun _ _ h => h, ?_⟩
      have e0 : 0 ≤ l / 2 := by omega
      have lt : (l / 2).toNat < l.toNat := by omega
      refine decB (fun h1 => ?_) (fun h1 => ?_)
      · refine ⟨ok _ _ f0 f1 s0 s1, hn, ok _ _ s0 s1 s0 s1, hn, divOk (by decide) (by decide), ?_⟩
        exact ⟨_, lt, mk _ _ _ e0 (Int.emod_nonneg _ (by omega)) (Int.emod_lt_of_pos _ hn) (Int.emod_nonneg _ (by omega)) (Int.emod_lt_of_pos _ hn) ((PowN.odd hl h1).trans inv)⟩
      · refine ⟨ok _ _ s0 s1 s0 s1, hn, divOk (by decide) (by decide), ?_⟩
        exact ⟨_, lt, mk _ _ _ e0 f0 f1 (Int.emod_nonneg _ (by omega)) (Int.emod_lt_of_pos _ hn) ((PowN.even hl (by omega)).trans inv)⟩
    · have : l = 0 := by omega
      subst this
      rw [Int.toNat_zero, Int.pow_zero, Int.mul_one, Int.emod_eq_of_lt f0 f1] at inv
      rw [← inv] at q
      exact q
abbrev s_raised : Stmt := top 20
theorem sc_raised : FnScope ["base", "often", "n"] ["base", "often", "n"] (defScope s_raised) := ⟨rfl, rfl, rfl, by decide +kernel, rfl, by decide +kernel, by decide +kernel⟩
theorem ok_raised {f : Addr} {fd : FuncData} (F : Fun K "raised" "raised" s_raised f fd) (c_need_between : Cl P w K mg base (L2.CX P w) 3 "need_between" (spNeed K er)) (c_need_number : Cl P w K mg base (L2.CX P w) 4 "need_number" (spNeed1 K er 1 BIG)) (c_need_far : Cl P w K mg base (L2.CX P w) 4 "need_far" (spNeed1 K er (-BIG) BIG)) (c_power_of : Cl P w K mg base CX0 1 "power_of" (spPow)) {t_MOST : Tok} (m_MOST : mg "MOST" = some (.int 1000000000000000000000000000000 t_MOST)) : FnG P w K mg base (L2.CX P w) 5 f fd ["base", "often", "n"] (spRaised K er) := by
  refine fnG F sc_raised (fun vs H Q E h => ?_) (fun cdv A outer s H vs Q E hr hgd h => ?_)
  · obtain ⟨vb, vo, vn, rfl, _⟩ := h
    rfl
  · obtain ⟨vb, vo, vn, rfl, hb, ho, hn, q1, q2⟩ := h
    have nd := sc_raised.nd
    refine ⟨_, (pss_cons (ps_expr (pe_clx (takes_of rfl rfl rfl rfl) (fun _ _ _ _ h => h) c_need_far hr hgd (by decide) rfl (pa_cons (pv 0) pa_nil)))
      (pss_cons (ps_expr (pe_clx (takes_of rfl rfl rfl rfl) (fun _ _ _ _ h => h) c_need_between hr hgd (by decide) rfl (pa_cons (pv 1) (pa_cons pe_int (pa_cons (pe_gi rfl m_MOST) pa_nil)))))
      (pss_cons (ps_expr (pe_clx (takes_of rfl rfl rfl rfl) (fun _ _ _ _ h => h) c_need_number hr hgd (by decide) rfl (pa_cons (pv 2) pa_nil)))
      (pss_one (ps_ret (pe_cl c_power_of hr hgd (by decide) rfl (pa_cons (pv 0) (pa_cons (pv 1) (pa_cons (pv 2) pa_nil))))))))), ?_⟩
    walk_at "rd"
    refine ⟨vb, rfl, hb, fun g1 => ?_, fun g => q2 (by rw [g]; rfl)⟩
    refine ⟨vo, 0, BIG, rfl, ho, fun g2 => ?_, fun g => q2 (by rw [g1, g]; rfl)⟩
    refine ⟨vn, rfl, hn, fun g3 => ?_, fun g => q2 (by rw [g1, g2, g]; rfl)⟩
    obtain ⟨b, rfl, b1, b2⟩ := inR_int g1
    obtain ⟨o, rfl, o1, o2⟩ := inR_int g2
    obtain ⟨n, rfl, n1, n2⟩ := inR_int g3
    exact ⟨b, o, n, rfl, o1, by walk_at "om", by walk_at "om", q1 b o n rfl rfl rfl b1 b2 o1 o2 n1 n2⟩
abbrev s__law_cell_at : Stmt := top 22
theorem sc__law_cell_at : FnScope ["_law_script", "_law_k"] ["_law_script", "_law_k"] (defScope s__law_cell_at) := ⟨rfl, rfl, rfl, by decide +kernel, rfl, by decide +kernel, by decide +kernel⟩
theorem ok__law_cell_at {f : Addr} {fd : FuncData} (F : Fun K "_law_cell_at" "_law_cell_at" s__law_cell_at f fd) (z_len : mg "len" = none) : FnG P w K mg base CX0 1 f fd ["_law_script", "_law_k"] (spCellAt K) := by
  refine fnG0 F sc__law_cell_at (fun vs H Q E h => ?_) (fun cdv A outer s H vs Q E hr hgd h => ?_)
  · obtain ⟨a, ns, k, rfl, _⟩ := h
    rfl
  · obtain ⟨a, ns, k, rfl, hS, q⟩ := h
    have nd := sc__law_cell_at.nd
    refine ⟨_, (pss_cons (ps_if (pt_cmpR op_lt (pv 1) (pe_callB call_len_seq (by rfl) z_len PySem.boot_len (pa_cons (pv 0) pa_nil)) (nomark _))
        (pss_one (ps_ret (pe_ix ix_list (pv 0) (pv 1) (fun _ _ => rfl))))
        pss_nil)
      (pss_one (ps_ret pe_int))), ?_⟩
    walk_at "rd"
    refine ⟨_, .inl hS, decB (fun h => ?_) (fun _ => q 0)⟩
    rw [List.length_map] at h
    have hk : k < ns.length := by omega
    refine ⟨a, _, k, _, rfl, rfl, hS, atI_nat (by rw [List.getElem?_map, List.getElem?_eq_getElem hk]; rfl), q _⟩
abbrev s__law_state : Stmt := top 23
theorem sc__law_state : FnScope ["_law_script", "_law_k", "_law_cell"] ["_law_script", "_law_k"] (defScope s__law_state) := ⟨rfl, rfl, rfl, by decide +kernel, rfl, by decide +kernel, by decide +kernel⟩
theorem ok__law_state {f : Addr} {fd : FuncData} (F : Fun K "_law_state" "_law_state" s__law_state f fd) (c__law_cell_at : Cl P w K mg base CX0 1 "_law_cell_at" (spCellAt K)) : FnG P w K mg base CX0 2 f fd ["_law_script", "_law_k"] (spState K) := by
  refine fnG0 F sc__law_state (fun vs H Q E h => ?_) (fun cdv A outer s H vs Q E hr hgd h => ?_)
  · obtain ⟨a, ns, k, rfl, _⟩ := h
    rfl
  · obtain ⟨a, ns, k, rfl, hS, q⟩ := h
    have nd := sc__law_state.nd
    refine ⟨_, (pss_cons (ps_set (i := 2) nd rfl (.inl rfl) (pe_cl c__law_cell_at hr hgd (by decide) rfl (pa_cons (pv 0) (pa_cons (pv 1) pa_nil))))
      (pss_cons (ps_if (pt_cmpR op_ge (pv 2) (pe_op op_pow pe_int pe_int) (nomark _))
        (pss_one (ps_ret (pe_lst (pa_cons (pe_op op_sub (pv 2) (pe_op op_pow pe_int pe_int)) (pa_cons (pe_op op_add (pe_op op_mod (pv 2) pe_int) pe_int) pa_nil)))))
        pss_nil)
      (pss_one (ps_ret (pe_lst (pa_cons pe_int (pa_cons (pe_op op_add (pe_op op_mod (pv 2) pe_int) pe_int) pa_nil))))))), ?_⟩
    walk_at "rd"
    refine ⟨a, ns, k, rfl, hS, fun z => ?_⟩
    walk_at "rd"
    refine decB (fun h => ?_) (fun _ => ?_)
    · intro p hp
      exact q p _ hp (same_new hp _) ⟨_, _, upd_same, by omega, by omega, by omega⟩
    · intro p hp
      exact q p _ hp (same_new hp _) ⟨_, _, upd_same, by omega, by omega, by omega⟩
abbrev s__law_take : Stmt := top 24
theorem sc__law_take : FnScope ["_law_state_here", "_law_many", "_law_found", "_law_stirred"] ["_law_state_here", "_law_many"] (defScope s__law_take) := ⟨rfl, rfl, rfl, by decide +kernel, rfl, by decide +kernel, by decide +kernel⟩
theorem ok__law_take {f : Addr} {fd : FuncData} (F : Fun K "_law_take" "_law_take" s__law_take f fd)  : FnG P w K mg base CX0 1 f fd ["_law_state_here", "_law_many"] (spTake) := by
  refine fnG0 F sc__law_take (fun vs H Q E h => ?_) (fun cdv A outer s H vs Q E hr hgd h => ?_)
  · obtain ⟨a, m, rfl, _⟩ := h
    rfl
  · obtain ⟨a, m, rfl, ⟨x, y, hx, x0, y0, y1⟩, hm, hm2, q⟩ := h
    have nd := sc__law_take.nd
    refine ⟨_, (pss_cons (ps_if (pt_cmpR op_gt (pe_ix ix_list (pv 0) pe_int (fun _ _ => rfl)) pe_int (nomark _))
        (pss_cons (ps_set (i := 2) nd rfl (.inl rfl) (pe_op op_mod (pe_ix ix_list (pv 0) pe_int (fun _ _ => rfl)) (pv 1)))
          (pss_cons (ps_asg (pe_op op_fdivW (pe_ix ix_list (pv 0) pe_int (fun _ _ => rfl)) (pv 1)) (pg_sub (pv 0) pe_int set_list))
          (pss_one (ps_ret (pv 2)))))
        pss_nil)
      (pss_cons (ps_asg (pe_op op_mod (pe_op op_add (pe_op op_mulW (pe_ix ix_list (pv 0) pe_int (fun _ _ => rfl)) pe_int) pe_int) pe_int) (pg_sub (pv 0) pe_int set_list))
      (pss_cons (ps_set (i := 3) nd rfl (.inl rfl) (pe_op op_mod (pe_op op_add (pe_op op_add (pe_op op_mulW (pe_ix ix_list (pv 0) pe_int (fun _ _ => rfl)) (pe_ix ix_list (pv 0) pe_int (fun _ _ => rfl))) (pe_op op_mulW pe_int (pe_ix ix_list (pv 0) pe_int (fun _ _ => rfl)))) pe_int) pe_int))
      (pss_cons (ps_set (i := 3) nd rfl (.inl rfl) (pe_op op_mod (pe_op op_add (pe_op op_mulW (pv 3) (pv 3)) (pe_op op_mulW pe_int (pv 3))) pe_int))
      (pss_one (ps_ret (pe_op op_mod (pe_op op_fdivW (pv 3) pe_int) (pv 1)))))))), ?_⟩
    walk_at "rd"
    refine ix0 hx ⟨x, rfl, decB (fun h => ?_) (fun h => ?_)⟩
    · refine ix0 hx ⟨x, rfl, hm, ix0 hx ⟨x, rfl, divOk hm (by omega), st0 hx ?_⟩⟩
      exact q _ _ (Int.emod_nonneg _ (by omega)) (Int.emod_lt_of_pos _ hm) ⟨⟨_, _, upd_same, Int.ediv_nonneg x0 (by omega), y0, y1⟩, fun b o e n => by rw [upd_ne n]; exact e⟩
    · refine ix1 hx ⟨y, rfl, mulOk ⟨by omega, by omega⟩ ⟨by omega, by omega⟩, st1 hx ?_⟩
      have hz0 : 0 ≤ (y * 48271 + 29) % 2147483647 := by omega
      have hz1 : (y * 48271 + 29) % 2147483647 < 2147483647 := by omega
      generalize (y * 48271 + 29) % 2147483647 = z at hz0 hz1 ⊢
      have hx2 : (upd H a (.lst [V.int x, V.int z])) a = some (.lst [V.int x, V.int z]) := upd_same
      refine ix1 hx2 (ix1 hx2 ⟨z, rfl, z, rfl, mulOk ⟨by omega, by omega⟩ ⟨by omega, by omega⟩, ix1 hx2 ⟨z, rfl, mulOk ⟨by omega, by omega⟩ ⟨by omega, by omega⟩, ?_⟩⟩)
      have hs0 : 0 ≤ (z * z + 39373 * z + 7) % 2147483629 := by omega
      have hs1 : (z * z + 39373 * z + 7) % 2147483629 < 2147483629 := by omega
      generalize (z * z + 39373 * z + 7) % 2147483629 = s at hs0 hs1 ⊢
      refine ⟨mulOk ⟨by omega, by omega⟩ ⟨by omega, by omega⟩, mulOk ⟨by omega, by omega⟩ ⟨by omega, by omega⟩, divOk (by omega) (by omega), hm, ?_⟩
      exact q _ _ (Int.emod_nonneg _ (by omega)) (Int.emod_lt_of_pos _ hm) ⟨⟨_, _, upd_same, x0, by omega, by omega⟩, fun b o e n => by rw [upd_ne n]; exact e⟩
abbrev s__law_same : Stmt := top 25
theorem sc__law_same : FnScope ["_law_found", "_law_due", "_law_one", "_law_other"] ["_law_found", "_law_due"] (defScope s__law_same) := ⟨rfl, rfl, rfl, by decide +kernel, rfl, by decide +kernel, by decide +kernel⟩
theorem ok__law_same {f : Addr} {fd : FuncData} (F : Fun K "_law_same" "_law_same" s__law_same f fd) (z_bool : mg "bool" = none) (z_isinstance : mg "isinstance" = none) (z_len : mg "len" = none) (z_list : mg "list" = none) (z_tuple : mg "tuple" = none) : FnG P w K mg base CX0 1 f fd ["_law_found", "_law_due"] (spSame0) := by
  refine fnG0 F sc__law_same (fun vs H Q E h => ?_) (fun cdv A outer s H vs Q E hr hgd h => ?_)
  · obtain ⟨v, rfl, _⟩ := h
    rfl
  · obtain ⟨v, rfl, hv, q⟩ := h
    have nd := sc__law_same.nd
    refine ⟨_, (pss_cons (ps_if (pt_val (pe_callB call_isiT (by rfl) z_isinstance (by decide +kernel) (pa_cons (pv 1) (pa_cons (pe_tup (pa_cons (pe_bltn (v := .ty "tuple") (by rfl) z_tuple (by decide +kernel) rfl) (pa_cons (pe_bltn (v := .ty "list") (by rfl) z_list (by decide +kernel) rfl) pa_nil))) pa_nil))))
        (pss_cons (ps_if (PW.pt (pw_or (pt_cmpR op_ne (pe_callB call_isi (by rfl) z_isinstance (by decide +kernel) (pa_cons (pv 0) (pa_cons (pe_bltn (v := .ty "tuple") (by rfl) z_tuple (by decide +kernel) rfl) pa_nil))) (pe_callB call_isi (by rfl) z_isinstance (by decide +kernel) (pa_cons (pv 1) (pa_cons (pe_bltn (v := .ty "tuple") (by rfl) z_tuple (by decide +kernel) rfl) pa_nil))) (nomark _)) (pw_or1 (pt_cmpR op_ne (pe_callB call_isi (by rfl) z_isinstance (by decide +kernel) (pa_cons (pv 0) (pa_cons (pe_bltn (v := .ty "list") (by rfl) z_list (by decide +kernel) rfl) pa_nil))) (pe_callB call_isi (by rfl) z_isinstance (by decide +kernel) (pa_cons (pv 1) (pa_cons (pe_bltn (v := .ty "list") (by rfl) z_list (by decide +kernel) rfl) pa_nil))) (nomark _)))))
            (pss_one (ps_ret pe_bl))
            pss_nil)
          (pss_cons (ps_if (pt_cmpR op_ne (pe_callB call_len_seq (by rfl) z_len PySem.boot_len (pa_cons (pv 0) pa_nil)) (pe_callB call_len_seq (by rfl) z_len PySem.boot_len (pa_cons (pv 1) pa_nil)) (nomark _))
            (pss_one (ps_ret pe_bl))
            pss_nil)
          (pss_one (ps_ret pe_no))))
        pss_nil)
      (pss_one (ps_ret (pe_and (pe_cmpR op_eq (pv 0) (pv 1) (nomark _)) (pe_one (pe_cmpR op_eq (pe_callB call_isi (by rfl) z_isinstance (by decide +kernel) (pa_cons (pv 0) (pa_cons (pe_bltn (v := .ty "bool") (by rfl) z_bool (by decide +kernel) rfl) pa_nil))) (pe_callB call_isi (by rfl) z_isinstance (by decide +kernel) (pa_cons (pv 1) (pa_cons (pe_bltn (v := .ty "bool") (by rfl) z_bool (by decide +kernel) rfl) pa_nil))) (nomark _))))))), ?_⟩
    walk_at "rd"
    intro p hp
    have q2 : Q (.bl true) (upd H p (.tup [V.ty "tuple", V.ty "list"])) := q _ (same_new hp _)
    obtain ⟨t, ht, h1, h2⟩ : ∃ t, Ty K H v t ∧ (t == "tuple" || t == "list") = false ∧ scal v v = true := by
      rcases hv with ⟨i, rfl⟩ | ⟨b, rfl⟩ | rfl | ⟨s, rfl⟩
      · exact ⟨_, .int i, rfl, rfl⟩
      · exact ⟨_, .bl b, rfl, rfl⟩
      · exact ⟨_, .non, rfl, rfl⟩
      · exact ⟨_, .str s, rfl, rfl⟩
    have ht2 := ht.ext (same_new hp (.tup [V.ty "tuple", V.ty "list"]))
    refine isiTL ht2 upd_same ⟨_, rfl, ?_⟩
    rw [h1]
    refine iteF ⟨h2, isi ht2 ht2.kBool (isi ht2 ht2.kBool ⟨rfl, ?_⟩)⟩
    rw [decide_eq_true rfl]
    exact q2
abbrev s__law_word : Stmt := top 26
theorem sc__law_word : FnScope ["_law_call", "_law_error", "e", "_law_marks", "_law_words"] ["_law_call"] (defScope s__law_word) := ⟨rfl, rfl, rfl, by decide +kernel, rfl, by decide +kernel, by decide +kernel⟩
theorem gv__law_word {f : Addr} (z_ValueError : mg "ValueError" = none) (z_isinstance : mg "isinstance" = none) (v_NoBases : mg "NoBases" = some (.ref (er "NoBases"))) (v_NoDeed : mg "NoDeed" = some (.ref (er "NoDeed"))) (v_NoLine : mg "NoLine" = some (.ref (er "NoLine"))) (v_NoName : mg "NoName" = some (.ref (er "NoName"))) (v_NoNumber : mg "NoNumber" = some (.ref (er "NoNumber"))) (v_NoPair : mg "NoPair" = some (.ref (er "NoPair"))) (v_NoPaper : mg "NoPaper" = some (.ref (er "NoPaper"))) (v_NoPrime : mg "NoPrime" = some (.ref (er "NoPrime"))) (v_NoText : mg "NoText" = some (.ref (er "NoText"))) (v_PrimeError : mg "PrimeError" = some (.ref (er "PrimeError"))) (v_TooGreat : mg "TooGreat" = some (.ref (er "TooGreat"))) : ∀ cdv, Gives P w K mg base 0 ["_law_call", "_law_error", "e", "_law_marks", "_law_words"] "_law_word" (defScope s__law_word) f cdv (defBody s__law_word) "_law_call" (ttWord K er) := by
  intro cdv A outer s H Q fl L tl hr hgd mono act hL h
  have nd := sc__law_word.nd
  refine ⟨_, (pss_cons (ps_set (i := 1) nd rfl (.inl rfl) pe_non)
      (pss_cons (ps_try_keep (i := 2) rfl rfl rfl nd rfl rfl ⟨rfl, by decide, .inl v_PrimeError⟩ (fun W pn xe tk => pss_one (ps_expr (act W pn xe _ _ tk))) (fun a oe pn => pss_one (ps_set (i := 1) nd rfl (.inl rfl) (pv 2))))
      (pss_cons (ps_if (pt_cmpR op_isN (pv 1) pe_non (nomark _))
        (pss_one (ps_ret pe_non))
        pss_nil)
      (pss_cons (ps_set (i := 3) nd rfl (.inl rfl) (pe_lst (pa_cons (pe_callB call_isX (by rfl) z_isinstance (by decide +kernel) (pa_cons (pv 1) (pa_cons (pe_glob (v := .ref (er "NoNumber")) rfl v_NoNumber rfl) pa_nil))) (pa_cons (pe_callB call_isX (by rfl) z_isinstance (by decide +kernel) (pa_cons (pv 1) (pa_cons (pe_glob (v := .ref (er "NoPrime")) rfl v_NoPrime rfl) pa_nil))) (pa_cons (pe_callB call_isX (by rfl) z_isinstance (by decide +kernel) (pa_cons (pv 1) (pa_cons (pe_glob (v := .ref (er "NoPair")) rfl v_NoPair rfl) pa_nil))) pa_nil)))))
      (pss_cons (ps_set (i := 3) nd rfl (.inl rfl) (pe_op op_cat (pv 3) (pe_lst (pa_cons (pe_callB call_isX (by rfl) z_isinstance (by decide +kernel) (pa_cons (pv 1) (pa_cons (pe_glob (v := .ref (er "NoPaper")) rfl v_NoPaper rfl) pa_nil))) (pa_cons (pe_callB call_isX (by rfl) z_isinstance (by decide +kernel) (pa_cons (pv 1) (pa_cons (pe_glob (v := .ref (er "NoBases")) rfl v_NoBases rfl) pa_nil))) (pa_cons (pe_callB call_isX (by rfl) z_isinstance (by decide +kernel) (pa_cons (pv 1) (pa_cons (pe_glob (v := .ref (er "NoText")) rfl v_NoText rfl) pa_nil))) pa_nil))))))
      (pss_cons (ps_set (i := 3) nd rfl (.inl rfl) (pe_op op_cat (pv 3) (pe_lst (pa_cons (pe_callB call_isX (by rfl) z_isinstance (by decide +kernel) (pa_cons (pv 1) (pa_cons (pe_glob (v := .ref (er "NoLine")) rfl v_NoLine rfl) pa_nil))) (pa_cons (pe_callB call_isX (by rfl) z_isinstance (by decide +kernel) (pa_cons (pv 1) (pa_cons (pe_glob (v := .ref (er "NoName")) rfl v_NoName rfl) pa_nil))) (pa_cons (pe_callB call_isX (by rfl) z_isinstance (by decide +kernel) (pa_cons (pv 1) (pa_cons (pe_glob (v := .ref (er "NoDeed")) rfl v_NoDeed rfl) pa_nil))) pa_nil))))))
      (pss_cons (ps_expr (pe_bm PySem.F.plainAttrs_list PySem.F.slot_list_append PySem.F.type_list_append mt_append (pv 3) (pa_cons (pe_callB call_isX (by rfl) z_isinstance (by decide +kernel) (pa_cons (pv 1) (pa_cons (pe_glob (v := .ref (er "TooGreat")) rfl v_TooGreat rfl) pa_nil))) pa_nil)))
      (pss_cons (ps_if (PW.pt (pw_or (pt_not (pt_val (pe_callB call_isX (by rfl) z_isinstance (by decide +kernel) (pa_cons (pv 1) (pa_cons (pe_bltn (v := .ty "ValueError") (by rfl) z_ValueError (by decide +kernel) rfl) pa_nil))))) (pw_or1 (pt_cmpR op_ne (pe_bm PySem.F.plainAttrs_list PySem.F.slot_list_count PySem.F.type_list_count (mt_countB hr.units) (pv 3) (pa_cons pe_bl pa_nil)) pe_int (nomark _)))))
        (pss_one (ps_ret pe_str))
        pss_nil)
      (pss_cons (ps_set (i := 4) nd rfl (.inl rfl) (pe_lst (pa_cons pe_str (pa_cons pe_str (pa_cons pe_str (pa_cons pe_str (pa_cons pe_str (pa_cons pe_str (pa_cons pe_str (pa_cons pe_str (pa_cons pe_str pa_nil)))))))))))
      (pss_one (ps_ret (pe_ifExp (pt_val (pe_ix ix_list (pv 3) pe_int (fun _ _ => rfl))) (pe_tup (pa_cons pe_str (pa_cons pe_no (pa_cons pe_no pa_nil)))) (pe_ix ix_list (pv 4) (pe_bm PySem.F.plainAttrs_list PySem.F.slot_list_index PySem.F.type_list_index mt_index (pv 3) (pa_cons pe_bl pa_nil)) (fun _ _ => rfl)))))))))))))), ?_⟩
  walk_at "rd"
  refine ⟨hL, h _ _ (fun i D wd H' hi k hw q => ?_) (fun v H' q => ?_)⟩
  · refine ⟨k.m, fun a ha => ?_⟩
    walk_at "rd"
    have s0 := same_new ha (ExK (Value.ref (er D)) none a)
    have h0 : (upd H' a (ExK (Value.ref (er D)) none a)) a = some (ExK (Value.ref (er D)) none a) := upd_same
    generalize upd H' a (ExK (Value.ref (er D)) none a) = H0 at s0 h0 ⊢
    refine isX (j := 0) k h0 rfl (isX (j := 1) k h0 rfl (isX (j := 2) k h0 rfl ?_))
    intro p1 hp1
    have s1 := same_new hp1 (.lst [V.bl (decide (i = 0)), V.bl (decide (i = 1)), V.bl (decide (i = 2))])
    have e1 : upd H0 p1 (.lst [V.bl (decide (i = 0)), V.bl (decide (i = 1)), V.bl (decide (i = 2))]) p1 = _ := upd_same
    have h1 := s1 _ _ h0
    generalize upd H0 p1 (.lst [V.bl (decide (i = 0)), V.bl (decide (i = 1)), V.bl (decide (i = 2))]) = H1 at s1 e1 h1 ⊢
    refine isX (j := 3) k h1 rfl (isX (j := 4) k h1 rfl (isX (j := 5) k h1 rfl ?_))
    intro p2 hp2
    have s2 := same_new hp2 (.lst [V.bl (decide (i = 3)), V.bl (decide (i = 4)), V.bl (decide (i = 5))])
    have e2 : upd H1 p2 (.lst [V.bl (decide (i = 3)), V.bl (decide (i = 4)), V.bl (decide (i = 5))]) p2 = _ := upd_same
    have h2 := s2 _ _ h1
    have f1 := s2 _ _ e1
    generalize upd H1 p2 (.lst [V.bl (decide (i = 3)), V.bl (decide (i = 4)), V.bl (decide (i = 5))]) = H2 at s2 e2 h2 f1 ⊢
    refine ⟨p1, p2, _, _, rfl, rfl, f1, e2, sz (by simp), fun p3 hp3 => ?_⟩
    have s3 := same_new hp3 (.lst ([V.bl (decide (i = 0)), V.bl (decide (i = 1)), V.bl (decide (i = 2))] ++ [V.bl (decide (i = 3)), V.bl (decide (i = 4)), V.bl (decide (i = 5))]))
    have e3 : upd H2 p3 (.lst ([V.bl (decide (i = 0)), V.bl (decide (i = 1)), V.bl (decide (i = 2))] ++ [V.bl (decide (i = 3)), V.bl (decide (i = 4)), V.bl (decide (i = 5))])) p3 = _ := upd_same
    have h3 := s3 _ _ h2
    generalize upd H2 p3 (.lst ([V.bl (decide (i = 0)), V.bl (decide (i = 1)), V.bl (decide (i = 2))] ++ [V.bl (decide (i = 3)), V.bl (decide (i = 4)), V.bl (decide (i = 5))])) = H3 at s3 e3 h3 ⊢
    refine isX (j := 6) k h3 rfl (isX (j := 7) k h3 rfl (isX (j := 8) k h3 rfl ?_))
    intro p4 hp4
    have s4 := same_new hp4 (.lst [V.bl (decide (i = 6)), V.bl (decide (i = 7)), V.bl (decide (i = 8))])
    have e4 : upd H3 p4 (.lst [V.bl (decide (i = 6)), V.bl (decide (i = 7)), V.bl (decide (i = 8))]) p4 = _ := upd_same
    have h4 := s4 _ _ h3
    have f3 := s4 _ _ e3
    generalize upd H3 p4 (.lst [V.bl (decide (i = 6)), V.bl (decide (i = 7)), V.bl (decide (i = 8))]) = H4 at s4 e4 h4 f3 ⊢
    refine ⟨p3, p4, _, _, rfl, rfl, f3, e4, sz (by simp), fun p5 hp5 => ?_⟩
    have sA : Same H' H4 := (((s0.trans s1).trans s2).trans s3).trans s4
    have h5 : upd H4 p5 (.lst (([V.bl (decide (i = 0)), V.bl (decide (i = 1)), V.bl (decide (i = 2))] ++ [V.bl (decide (i = 3)), V.bl (decide (i = 4)), V.bl (decide (i = 5))]) ++ [V.bl (decide (i = 6)), V.bl (decide (i = 7)), V.bl (decide (i = 8))])) a = some (ExK (Value.ref (er D)) none a) := same_new hp5 _ _ _ h4
    refine ⟨tyL upd_same, isX (j := 9) k h5 rfl ⟨p5, rfl, _, upd_same, by simp, ?_⟩⟩
    rw [upd_upd]
    have s6 := same_new hp5 (.lst ([0, 1, 2, 3, 4, 5, 6, 7, 8, 9].map fun j => V.bl (decide (i = j))))
    have e6 : upd H4 p5 (.lst ([0, 1, 2, 3, 4, 5, 6, 7, 8, 9].map fun j => V.bl (decide (i = j)))) p5 = some (.lst (([0, 1, 2, 3, 4, 5, 6, 7, 8, 9].map fun j => decide (i = j)).map V.bl)) := upd_same
    have h6 : upd H4 p5 (.lst ([0, 1, 2, 3, 4, 5, 6, 7, 8, 9].map fun j => V.bl (decide (i = j)))) a = some (ExK (Value.ref (er D)) none a) := s6 _ _ h4
    show rIsX K [V.ref a, V.ty "ValueError"] (upd H4 p5 (.lst ([0, 1, 2, 3, 4, 5, 6, 7, 8, 9].map fun j => V.bl (decide (i = j))))) _
    generalize upd H4 p5 (.lst ([0, 1, 2, 3, 4, 5, 6, 7, 8, 9].map fun j => V.bl (decide (i = j)))) = H6 at s6 e6 h6 ⊢
    have sB : Same H' H6 := sA.trans s6
    refine isXV k h6 ⟨true, rfl, ?_⟩
    walk_at "rd"
    refine ⟨tyL e6, p5, _, true, rfl, rfl, SqL.of e6, ?_⟩
    have hc : (([0, 1, 2, 3, 4, 5, 6, 7, 8, 9].map fun j => decide (i = j)).count true) = 1 := by
      have : i = 0 ∨ i = 1 ∨ i = 2 ∨ i = 3 ∨ i = 4 ∨ i = 5 ∨ i = 6 ∨ i = 7 ∨ i = 8 := by omega
      rcases this with rfl | rfl | rfl | rfl | rfl | rfl | rfl | rfl | rfl <;> decide
    rw [hc]
    refine ⟨rfl, iteNS (by decide) ?_⟩
    intro p7 hp7
    have s7 := same_new hp7 (.lst (wordsE.map V.str))
    have e7 : upd H6 p7 (.lst (wordsE.map V.str)) p7 = _ := upd_same
    show rIxL K (V.ref p5) (V.int 9) (upd H6 p7 (.lst (wordsE.map V.str))) _
    generalize upd H6 p7 (.lst (wordsE.map V.str)) = H7 at s7 e7 ⊢
    have g6 := s7 _ _ e6
    have ne9 : ¬ i = 9 := by omega
    refine ixL (SqL.of g6) (v := V.bl false) (by rw [List.map_map]; show some (V.bl (decide (i = 9))) = _; rw [decide_eq_false ne9]) ⟨false, rfl, ?_⟩
    have at_ : ∀ m : Nat, m < 10 → (([0, 1, 2, 3, 4, 5, 6, 7, 8, 9].map fun j => decide (i = j)).map V.bl)[m]? = some (V.bl (decide (i = m))) := fun m hm => by
      show (((List.range 10).map fun j => decide (i = j)).map V.bl)[m]? = _
      rw [List.getElem?_map, List.getElem?_map, List.getElem?_range hm]
      rfl
    refine iteF ⟨tyL g6, p5, _, .bl true, i, .bl true, rfl, rfl, SqL.of g6, rfl, List.all_eq_true.mpr fun z hz => ?_, ?_, rfl, fun m z' hm hz => ?_, ?_⟩
    · obtain ⟨b, _, rfl⟩ := List.mem_map.mp hz
      rfl
    · rw [at_ i (by omega), decide_eq_true rfl]
    · rw [at_ m (by omega), decide_eq_false (by omega)] at hz
      cases hz
      rfl
    · refine ixL (SqL.of e7) (v := V.str wd) (atI_nat (j := i) ?_) (q _ (sB.trans s7))
      rw [List.getElem?_map, hw]
      rfl
  · exact q
abbrev s__law_far : Stmt := top 27
theorem sc__law_far : FnScope ["_law_state_here", "_law_many", "_law_found", "_law_turn"] ["_law_state_here", "_law_many"] (defScope s__law_far) := ⟨rfl, rfl, rfl, by decide +kernel, rfl, by decide +kernel, by decide +kernel⟩
theorem ok__law_far {f : Addr} {fd : FuncData} (F : Fun K "_law_far" "_law_far" s__law_far f fd) (c__law_take : Cl P w K mg base CX0 1 "_law_take" (spTake)) (z_range : mg "range" = none) : FnG P w K mg base CX0 2 f fd ["_law_state_here", "_law_many"] (spTake) := by
  refine fnG0 F sc__law_far (fun vs H Q E h => ?_) (fun cdv A outer s H vs Q E hr hgd h => ?_)
  · obtain ⟨a, m, rfl, _⟩ := h
    rfl
  · obtain ⟨a, m, rfl, hS, hm, hm2, q⟩ := h
    have nd := sc__law_far.nd
    refine ⟨_, (pss_cons (ps_set (i := 2) nd rfl (.inl rfl) pe_int)
      (pss_cons (ps_for PassesOwn.never rfl (pi_range1 (by rfl) z_range (pa_cons pe_int pa_nil)) (pg_name (i := 3) nd rfl (.inl rfl))
        (pss_one (ps_set (i := 2) nd rfl (.inl rfl) (pe_op op_add (pe_op op_mulW (pv 2) pe_int) (pe_cl c__law_take hr hgd (by decide) rfl (pa_cons (pv 0) (pa_cons pe_int pa_nil)))))))
      (pss_one (ps_ret (pe_op op_mod (pv 2) (pv 1)))))), ?_⟩
    walk_at "rd"
    obtain ⟨Pv, hP⟩ : ∃ Pv : Nat → L2.St → Hp → Prop, Pv = fun i σ H' => ∃ (f : Int) (t : Option V), σ = [some (V.ref a), some (V.int m), some (V.int f), t] ∧ Draw a H H' ∧ 0 ≤ f ∧ f < 1000000007 ^ i := ⟨_, rfl⟩
    have mk : ∀ i f t H', Draw a H H' → 0 ≤ f → f < 1000000007 ^ i → Pv i [some (V.ref a), some (V.int m), some (V.int f), t] H' := fun i f t H' h1 h2 h3 => by rw [hP]; exact ⟨f, t, rfl, h1, h2, h3⟩
    refine ⟨4, rfl, by decide, by decide, for_range (n := 4) Pv (mk 0 _ _ _ (Draw.refl hS) (by decide) (by decide)) ?_ ?_⟩
    · intro i σ H' hi h
      rw [hP] at h
      obtain ⟨f, t, rfl, D, f0, f1⟩ := h
      have fb : f < 2 ^ 200 := by
        have : i = 0 ∨ i = 1 ∨ i = 2 ∨ i = 3 := by omega
        rcases this with rfl | rfl | rfl | rfl <;> omega
      walk_at "rd"
      refine ⟨mulOk ⟨by omega, by omega⟩ ⟨by omega, by omega⟩, ?_⟩
      refine ⟨a, _, rfl, D.1, by decide, by decide, fun r H2 r0 r1 D2 => ⟨r, rfl, mk _ _ _ _ (D.trans D2) (by omega) ?_⟩⟩
      rw [Int.pow_succ]
      omega
    · intro σ H' h
      rw [hP] at h
      obtain ⟨f, t, rfl, D, f0, f1⟩ := h
      walk_at "rd"
      exact ⟨hm, q _ _ (Int.emod_nonneg _ (by omega)) (Int.emod_lt_of_pos _ hm) D⟩
abbrev s__law_number : Stmt := top 28
theorem sc__law_number : FnScope ["_law_state_here", "_law_way", "_law_some"] ["_law_state_here"] (defScope s__law_number) := ⟨rfl, rfl, rfl, by decide +kernel, rfl, by decide +kernel, by decide +kernel⟩
theorem ok__law_number {f : Addr} {fd : FuncData} (F : Fun K "_law_number" "_law_number" s__law_number f fd) (c__law_take : Cl P w K mg base CX0 1 "_law_take" (spTake)) (c__law_far : Cl P w K mg base CX0 2 "_law_far" (spTake)) : FnG P w K mg base CX0 3 f fd ["_law_state_here"] (spDraw1 1 BIG) := by
  refine fnG0 F sc__law_number (fun vs H Q E h => ?_) (fun cdv A outer s H vs Q E hr hgd h => ?_)
  · obtain ⟨a, rfl, _⟩ := h
    rfl
  · obtain ⟨a, rfl, hS, q⟩ := h
    have nd := sc__law_number.nd
    refine ⟨_, (pss_cons (ps_set (i := 1) nd rfl (.inl rfl) (pe_cl c__law_take hr hgd (by decide) rfl (pa_cons (pv 0) (pa_cons pe_int pa_nil))))
      (pss_cons (ps_set (i := 2) nd rfl (.inl rfl) (pe_lst (pa_cons (pe_op op_add pe_int (pe_cl c__law_take hr hgd (by decide) rfl (pa_cons (pv 0) (pa_cons pe_int pa_nil)))) (pa_cons (pe_op op_add pe_int (pe_cl c__law_take hr hgd (by decide) rfl (pa_cons (pv 0) (pa_cons (pe_op op_pow pe_int pe_int) pa_nil)))) (pa_cons (pe_op op_add pe_int (pe_cl c__law_far hr hgd (by decide) rfl (pa_cons (pv 0) (pa_cons (pe_op op_pow pe_int pe_int) pa_nil)))) pa_nil)))))
      (pss_one (ps_ret (pe_ix ix_list (pe_op op_cat (pv 2) (pe_lst (pa_cons pe_int (pa_cons (pe_op op_pow pe_int pe_int) (pa_cons (pe_op op_add pe_int (pe_cl c__law_far hr hgd (by decide) rfl (pa_cons (pv 0) (pa_cons (pe_op op_pow pe_int pe_int) pa_nil)))) pa_nil))))) (pv 1) (fun _ _ => rfl)))))), ?_⟩
    walk_at "rd"
    refine ⟨a, 6, rfl, hS, by decide, by decide, fun r1 H1 a1 b1 D1 => ?_⟩
    refine ⟨a, 30, rfl, D1.1, by decide, by decide, fun r2 H2 a2 b2 D2 => ⟨r2, rfl, ?_⟩⟩
    refine ⟨a, 10000, rfl, D2.1, by decide, by decide, fun r3 H3 a3 b3 D3 => ⟨r3, rfl, ?_⟩⟩
    refine ⟨a, _, rfl, D3.1, by decide, by decide, fun r4 H4 a4 b4 D4 => ⟨r4, rfl, fun p hp => ?_⟩⟩
    have s5 := same_new hp (.lst [V.int (1 + r2), V.int (1 + r3), V.int (1 + r4)])
    refine ⟨a, _, rfl, D4.1.ext s5, by decide, by decide, fun r6 H6 a6 b6 D6 => ?_⟩
    walk_at "rd"
    intro p2 hp2
    have s7 := same_new hp2 (.lst [V.int 1, V.int 1000000000000000000000000000000, V.int (1 + r6)])
    refine ⟨p, p2, _, _, rfl, rfl, s7 _ _ (D6.2 _ _ upd_same (D4.ne hp)), upd_same, (by show 3 + 3 ≤ sizeLine; decide), fun p3 hp3 => ?_⟩
    have s8 := same_new hp3 (.lst ([V.int (1 + r2), V.int (1 + r3), V.int (1 + r4)] ++ [V.int 1, V.int 1000000000000000000000000000000, V.int (1 + r6)]))
    have D := ((((((D1.trans D2).trans D3).trans D4).same s5).trans D6).same s7).same s8
    refine memD (SqL.of upd_same) a1 b1 fun v hv => ?_
    simp only [List.mem_append, List.mem_cons, List.not_mem_nil, or_false] at hv
    rcases hv with (rfl | rfl | rfl) | rfl | rfl | rfl
    all_goals exact q _ _ (by walk_at "om") (by walk_at "om") D
abbrev s__law_far_number : Stmt := top 29
theorem sc__law_far_number : FnScope ["_law_state_here", "_law_number_here"] ["_law_state_here"] (defScope s__law_far_number) := ⟨rfl, rfl, rfl, by decide +kernel, rfl, by decide +kernel, by decide +kernel⟩
theorem ok__law_far_number {f : Addr} {fd : FuncData} (F : Fun K "_law_far_number" "_law_far_number" s__law_far_number f fd) (c__law_take : Cl P w K mg base CX0 1 "_law_take" (spTake)) (c__law_number : Cl P w K mg base CX0 3 "_law_number" (spDraw1 1 BIG)) : FnG P w K mg base CX0 4 f fd ["_law_state_here"] (spDraw1 (-BIG) BIG) := by
  refine fnG0 F sc__law_far_number (fun vs H Q E h => ?_) (fun cdv A outer s H vs Q E hr hgd h => ?_)
  · obtain ⟨a, rfl, _⟩ := h
    rfl
  · obtain ⟨a, rfl, hS, q⟩ := h
    have nd := sc__law_far_number.nd
    refine ⟨_, (pss_cons (ps_set (i := 1) nd rfl (.inl rfl) (pe_cl c__law_number hr hgd (by decide) rfl (pa_cons (pv 0) pa_nil)))
      (pss_one (ps_ret (pe_ix ix_list (pe_lst (pa_cons (pv 1) (pa_cons (pe_op op_sub pe_int (pv 1)) (pa_cons pe_int (pa_cons (pe_op op_sub (pv 1) pe_int) pa_nil))))) (pe_cl c__law_take hr hgd (by decide) rfl (pa_cons (pv 0) (pa_cons pe_int pa_nil))) (fun _ _ => rfl))))), ?_⟩
    walk_at "rd"
    refine ⟨a, rfl, hS, fun n H1 n1 n2 D1 => ?_⟩
    walk_at "rd"
    intro p hp
    have s2 := same_new hp (.lst [V.int n, V.int (0 - n), V.int 0, V.int (n - 1)])
    refine ⟨a, 4, rfl, D1.1.ext s2, by decide, by decide, fun r H3 r0 r1 D3 => ?_⟩
    have hp3 : H3 p = some (.lst [V.int n, V.int (0 - n), V.int 0, V.int (n - 1)]) := D3.2 _ _ upd_same (Draw.ne D1 hp)
    have D := (D1.same s2).trans D3
    refine memD (SqL.of hp3) r0 r1 fun v hv => ?_
    simp only [List.mem_cons, List.not_mem_nil, or_false] at hv
    rcases hv with rfl | rfl | rfl | rfl
    all_goals exact q _ _ (by walk_at "om") (by walk_at "om") D
abbrev s__law_none : Stmt := top 30
theorem sc__law_none : FnScope ["_law_state_here", "_law_low", "_law_high", "_law_some"] ["_law_state_here", "_law_low", "_law_high"] (defScope s__law_none) := ⟨rfl, rfl, rfl, by decide +kernel, rfl, by decide +kernel, by decide +kernel⟩
theorem ok__law_none {f : Addr} {fd : FuncData} (F : Fun K "_law_none" "_law_none" s__law_none f fd) (c__law_take : Cl P w K mg base CX0 1 "_law_take" (spTake)) (z_str : mg "str" = none) : FnG P w K mg base CX0 2 f fd ["_law_state_here", "_law_low", "_law_high"] (spNone K) := by
  refine fnG0 F sc__law_none (fun vs H Q E h => ?_) (fun cdv A outer s H vs Q E hr hgd h => ?_)
  · obtain ⟨a, lo, hi, rfl, _⟩ := h
    rfl
  · obtain ⟨a, lo, hi, rfl, hS, h1, h2, h3, q⟩ := h
    have nd := sc__law_none.nd
    refine ⟨_, (pss_cons (ps_set (i := 3) nd rfl (.inl rfl) (pe_lst (pa_cons (pe_op op_sub (pv 1) pe_int) (pa_cons (pe_op op_add (pv 2) pe_int) (pa_cons pe_bl (pa_cons pe_bl (pa_cons pe_non (pa_cons (pe_callTy call_str_int (by rfl) z_str (by decide +kernel) (pa_cons (pv 1) pa_nil)) (pa_cons (pe_tup (pa_cons (pv 1) pa_nil)) (pa_cons (pe_lst (pa_cons (pv 2) pa_nil)) (pa_cons (pe_op op_pow pe_int pe_int) (pa_cons (pe_op op_sub pe_int (pe_op op_pow pe_int pe_int)) (pa_cons pe_dnewK (pa_cons pe_str pa_nil))))))))))))))
      (pss_one (ps_ret (pe_ix ix_list (pv 3) (pe_cl c__law_take hr hgd (by decide) rfl (pa_cons (pv 0) (pa_cons pe_int pa_nil))) (fun _ _ => rfl))))), ?_⟩
    walk_at "rd"
    refine ⟨log_lt (k := 250) (pow_lt (m := 0) 250 (by omega) (by omega)) (by decide), fun p hp p1 hp1 p2 hp2 p3 hp3 => ?_⟩
    have s1 := same_new hp (.tup [V.int lo])
    have e1 : upd H p (.tup [V.int lo]) p = _ := upd_same
    generalize upd H p (.tup [V.int lo]) = H1 at s1 e1 hp1 hp2 hp3 ⊢
    have s2 := same_new hp1 (.lst [V.int hi])
    have e2 : upd H1 p1 (.lst [V.int hi]) p1 = _ := upd_same
    have f1 := s2 _ _ e1
    generalize upd H1 p1 (.lst [V.int hi]) = H2 at s2 e2 f1 hp2 hp3 ⊢
    have s3 := same_new hp2 (.dK [])
    have e3 : upd H2 p2 (.dK []) p2 = _ := upd_same
    have g1 := s3 _ _ f1
    have g2 := s3 _ _ e2
    generalize upd H2 p2 (.dK []) = H3 at s3 e3 g1 g2 hp3 ⊢
    generalize hxs : [V.int (lo - 1), V.int (hi + 1), V.bl true, V.bl false, V.non, V.str (Str.ofString (toString lo)), V.ref p, V.ref p1, V.int 100000000000000000000000000000000000000000000000000000000000, V.int (-100000000000000000000000000000000000000000000000000000000000), V.ref p2, V.str (Str.ofString "")] = xs
    have s4 := same_new hp3 (.lst xs)
    have e4 : upd H3 p3 (.lst xs) p3 = _ := upd_same
    have k1 := s4 _ _ g1
    have k2 := s4 _ _ g2
    have k3 := s4 _ _ e3
    generalize upd H3 p3 (.lst xs) = H4 at s4 e4 k1 k2 k3 ⊢
    have sA : Same H H4 := ((s1.trans s2).trans s3).trans s4
    have n1 := hS.ne hp
    have n2 := (hS.ext s1).ne hp1
    have n3 := (hS.ext (s1.trans s2)).ne hp2
    have n4 := (hS.ext ((s1.trans s2).trans s3)).ne hp3
    have l12 : xs.length = 12 := by rw [← hxs]; rfl
    refine ⟨a, _, rfl, hS.ext sA, by decide, by decide, fun r H5 r0 r1 D => ?_⟩
    refine memD (SqL.of (D.keep e4 n4)) r0 (by omega) fun v hv => ?_
    have DH : Draw a H H5 := (hS.draw sA).trans D
    have i1 : ∀ i : Int, (i < lo ∨ hi < i) → inR (.int i) lo hi = false := fun i h => by
      show (decide (lo ≤ i) && decide (i ≤ hi)) = false
      rcases h with h | h
      · rw [decide_eq_false (show ¬ lo ≤ i by omega)]; rfl
      · rw [decide_eq_false (show ¬ i ≤ hi by omega), Bool.and_false]
    have nb : ∀ {v : V}, (∀ b, v ≠ .ref b) → ∀ b, v = .ref b → b ≠ a ∧ H b = none := fun h b z => absurd z (h b)
    rw [← hxs] at hv
    simp only [List.mem_cons, List.not_mem_nil, or_false] at hv
    rcases hv with rfl | rfl | rfl | rfl | rfl | rfl | rfl | rfl | rfl | rfl | rfl | rfl
    · exact q _ _ ⟨_, .int _⟩ (i1 _ (by omega)) (nb fun b z => by cases z) DH
    · exact q _ _ ⟨_, .int _⟩ (i1 _ (by omega)) (nb fun b z => by cases z) DH
    · exact q _ _ ⟨_, .bl _⟩ rfl (nb fun b z => by cases z) DH
    · exact q _ _ ⟨_, .bl _⟩ rfl (nb fun b z => by cases z) DH
    · exact q _ _ ⟨_, .non⟩ rfl (nb fun b z => by cases z) DH
    · exact q _ _ ⟨_, .str _⟩ rfl (nb fun b z => by cases z) DH
    · exact q _ _ ⟨_, .tup (D.keep k1 n1)⟩ rfl (fun b z => by cases z; exact ⟨n1, hp⟩) DH
    · exact q _ _ ⟨_, .lst (D.keep k2 n2)⟩ rfl (fun b z => by cases z; exact ⟨n2, s1.free hp1⟩) DH
    · exact q _ _ ⟨_, .int _⟩ (i1 _ (by omega)) (nb fun b z => by cases z) DH
    · exact q _ _ ⟨_, .int _⟩ (i1 _ (by omega)) (nb fun b z => by cases z) DH
    · exact q _ _ ⟨_, .dK (D.keep k3 n3)⟩ rfl (fun b z => by cases z; exact ⟨n3, (s1.trans s2).free hp2⟩) DH
    · exact q _ _ ⟨_, .str _⟩ rfl (nb fun b z => by cases z) DH
abbrev s__law_bits : Stmt := top 31
theorem sc__law_bits : FnScope ["_law_often", "_law_found"] ["_law_often"] (defScope s__law_bits) := ⟨rfl, rfl, rfl, by decide +kernel, rfl, by decide +kernel, by decide +kernel⟩
theorem ok__law_bits {f : Addr} {fd : FuncData} (F : Fun K "_law_bits" "_law_bits" s__law_bits f fd)  : FnG P w K mg base CX0 1 f fd ["_law_often"] (spBits) := by
  refine fnG0 F sc__law_bits (fun vs H Q E h => ?_) (fun cdv A outer s H vs Q E hr hgd h => ?_)
  · obtain ⟨o, rfl, _⟩ := h
    rfl
  · obtain ⟨o, rfl, ho, q⟩ := h
    have nd := sc__law_bits.nd
    refine ⟨_, (pss_cons (ps_set (i := 1) nd rfl (.inl rfl) (pe_lst pa_nil))
      (pss_cons (ps_while PassesOwn.never (pt_cmpR op_gt (pv 0) pe_int (nomark _))
        (pss_cons (ps_expr (pe_bm PySem.F.plainAttrs_list PySem.F.slot_list_append PySem.F.type_list_append mt_append (pv 1) (pa_cons (pe_op op_mod (pv 0) pe_int) pa_nil)))
          (pss_one (ps_set (i := 0) nd rfl (.inl rfl) (pe_op op_fdivW (pv 0) pe_int)))))
      (pss_one (ps_ret (pe_revL (pv 1)))))), ?_⟩
    walk_at "rd"
    intro p hp
    obtain ⟨W, hW⟩ : ∃ W : Nat → L2.St → Hp → Prop, W = fun m σ H' => ∃ (L : Nat) (bs : List Nat), m = L ∧ σ = [some (V.int L), some (V.ref p)] ∧ H' = upd H p (.lst (bs.map fun b : Nat => V.int b)) ∧ rval bs + 2 ^ bs.length * L = o ∧ (∀ b ∈ bs, b = 0 ∨ b = 1) ∧ (1 ≤ L → bs.length < 200) ∧ bs.length ≤ 200 := ⟨_, rfl⟩
    have mk : ∀ (L : Nat) (bs : List Nat), rval bs + 2 ^ bs.length * L = o → (∀ b ∈ bs, b = 0 ∨ b = 1) → bs.length ≤ 200 → W L [some (V.int L), some (V.ref p)] (upd H p (.lst (bs.map fun b : Nat => V.int b))) := fun L bs h1 h2 h3 => by
      rw [hW]
      refine ⟨L, bs, rfl, rfl, rfl, h1, h2, fun hL => ?_, h3⟩
      have h4 : 2 ^ bs.length ≤ 2 ^ bs.length * L := Nat.le_mul_of_pos_right _ hL
      have h5 : 2 ^ bs.length < 2 ^ 200 := by omega
      exact (Nat.pow_lt_pow_iff_right (by decide)).mp h5
    refine ⟨W, ⟨_, mk o [] (by simp [rval]) (by simp) (by simp)⟩, fun m σ H' h => ?_⟩
    rw [hW] at h
    obtain ⟨L, bs, rfl, rfl, rfl, h1, h2, h3, h4⟩ := h
    walk_at "rd"
    refine decB (fun h0 => ?_) (fun h0 => ?_)
    · have hm : 1 ≤ m := by omega
      have h5 := h3 hm
      refine ⟨_, fun _ _ h => h, tyL upd_same, _, upd_same, by rw [List.length_map]; omega, divOk (by decide) (by decide), ?_⟩
      refine ⟨m / 2, by omega, ?_⟩
      rw [upd_upd]
      have e1 : ((m : Int) / 2) = ((m / 2 : Nat) : Int) := by omega
      have e2 : ((m : Int) % 2) = ((m % 2 : Nat) : Int) := by omega
      have e3 : (bs.map fun b : Nat => V.int b) ++ [V.int ((m : Int) % 2)] = (bs ++ [m % 2]).map fun b : Nat => V.int b := by
        rw [List.map_append, e2]; rfl
      rw [e1, e3]
      refine mk _ _ ?_ (fun b hb => ?_) (by rw [List.length_append]; show bs.length + 1 ≤ 200; omega)
      · rw [rval_snoc, List.length_append, show bs.length + [m % 2].length = bs.length + 1 from rfl, Nat.pow_succ, Nat.mul_assoc, Nat.add_assoc, ← Nat.mul_add, Nat.mod_add_div]
        exact h1
      · rcases List.mem_append.mp hb with z | z
        · exact h2 b z
        · rw [List.mem_singleton] at z
          omega
    · have hm : m = 0 := by omega
      subst hm
      refine ⟨_, rfl, p, _, rfl, SqL.of upd_same, fun p2 hp2 => ?_⟩
      have np : H p2 = none := by
        have := hp2
        by_cases z : p2 = p
        · rw [z, upd_same] at this; cases this
        · rwa [upd_ne z] at this
      refine q p2 bs.reverse _ np (fun b u e => ?_) ?_ ?_ (fun b hb => h2 b (List.mem_reverse.mp hb)) (by rw [List.length_reverse]; exact h4)
      · rw [upd_ne (ne_of_none e np), upd_ne (ne_of_none e hp)]; exact e
      · rw [upd_same, List.map_reverse]
      · rw [bval_rev]; omega
abbrev s__law_power : Stmt := top 32
theorem sc__law_power : FnScope ["_law_base", "_law_often", "_law_n", "_law_found", "_law_bit"] ["_law_base", "_law_often", "_law_n"] (defScope s__law_power) := ⟨rfl, rfl, rfl, by decide +kernel, rfl, by decide +kernel, by decide +kernel⟩
theorem ok__law_power {f : Addr} {fd : FuncData} (F : Fun K "_law_power" "_law_power" s__law_power f fd) (c__law_bits : Cl P w K mg base CX0 1 "_law_bits" (spBits)) : FnG P w K mg base CX0 2 f fd ["_law_base", "_law_often", "_law_n"] (spPowB) := by
  refine fnG0 F sc__law_power (fun vs H Q E h => ?_) (fun cdv A outer s H vs Q E hr hgd h => ?_)
  · obtain ⟨b, n, o, rfl, _⟩ := h
    rfl
  · obtain ⟨b, n, o, rfl, ho, hn, hn2, b1, b2, q⟩ := h
    have nd := sc__law_power.nd
    refine ⟨_, (pss_cons (ps_set (i := 3) nd rfl (.inl rfl) (pe_op op_mod pe_int (pv 2)))
      (pss_cons (ps_for PassesOwn.never rfl (pi_list (pe_cl c__law_bits hr hgd (by decide) rfl (pa_cons (pv 1) pa_nil))) (pg_name (i := 4) nd rfl (.inl rfl))
        (pss_cons (ps_set (i := 3) nd rfl (.inl rfl) (pe_op op_mod (pe_op op_mulW (pv 3) (pv 3)) (pv 2)))
          (pss_one (ps_if (pt_cmpR op_eq (pv 4) pe_int (nomark _))
            (pss_one (ps_set (i := 3) nd rfl (.inl rfl) (pe_op op_mod (pe_op op_mulW (pv 3) (pv 0)) (pv 2))))
            pss_nil))))
      (pss_one (ps_ret (pv 3))))), ?_⟩
    walk_at "rd"
    refine ⟨hn, _, rfl, o, rfl, ho, fun p bs H1 np s1 hp hb hbs hlen => ?_⟩
    refine ⟨p, rfl, ⟨_, SqL.of hp⟩, ?_⟩
    obtain ⟨Pv, hP⟩ : ∃ Pv : Nat → L2.St → Hp → Prop, Pv = fun i σ H' => ∃ (f : Int) (o1 : Option V), σ = [some (V.int b), some (V.int o), some (V.int n), some (V.int f), o1] ∧ H' = H1 ∧ f = b ^ bval (bs.take i) % n := ⟨_, rfl⟩
    have mk : ∀ (i : Nat) (f : Int) {o1 : Option V}, f = b ^ bval (bs.take i) % n → Pv i [some (V.int b), some (V.int o), some (V.int n), some (V.int f), o1] H1 := fun i f _ h1 => by rw [hP]; exact ⟨_, _, rfl, rfl, h1⟩
    refine for_list (xs := bs.map fun b : Nat => V.int b) Pv (mk 0 _ (by show 1 % n = b ^ 0 % n; rw [Int.pow_zero])) (fun i σ H' _ h => ?_) (fun i x σ H' hx h => ?_) (fun σ H' h => ?_)
    · rw [hP] at h
      obtain ⟨_, _, rfl, rfl, _⟩ := h
      exact SqL.of hp
    · rw [hP] at h
      obtain ⟨f, o1, rfl, rfl, rfl⟩ := h
      rw [List.getElem?_map] at hx
      cases hc : bs[i]? with
      | none => rw [hc] at hx; cases hx
      | some c =>
        rw [hc] at hx
        have ex : V.int c = x := Option.some.inj hx
        subst ex
        have tk := take_snoc hc
        have f0 := Int.emod_nonneg (b ^ bval (bs.take i)) (show n ≠ 0 by omega)
        have f1 := Int.emod_lt_of_pos (b ^ bval (bs.take i)) hn
        walk_at "rd"
        refine ⟨mulOk ⟨by omega, by omega⟩ ⟨by omega, by omega⟩, hn, ?_⟩
        have g0 := Int.emod_nonneg (b ^ bval (bs.take i) % n * (b ^ bval (bs.take i) % n)) (show n ≠ 0 by omega)
        have g1 := Int.emod_lt_of_pos (b ^ bval (bs.take i) % n * (b ^ bval (bs.take i) % n)) hn
        have sq2 : b ^ bval (bs.take i) % n * (b ^ bval (bs.take i) % n) % n = b ^ (2 * bval (bs.take i)) % n := by rw [pow_mod_add, ← Nat.two_mul]
        rcases hbs c (List.mem_of_getElem? hc) with rfl | rfl
        · refine decB (fun z => absurd z (by decide)) (fun _ => mk (i + 1) _ ?_)
          rw [sq2, tk, bval_snoc]; rfl
        · refine decB (fun _ => ?_) (fun z => absurd rfl z)
          refine ⟨mulOk ⟨by omega, by omega⟩ ⟨by omega, by omega⟩, hn, mk (i + 1) _ ?_⟩
          rw [sq2, Int.mul_emod, Int.emod_emod_of_dvd _ (Int.dvd_refl _), ← Int.mul_emod, ← Int.pow_succ, tk, bval_snoc]
    · rw [hP] at h
      obtain ⟨f, o1, rfl, rfl, rfl⟩ := h
      walk_at "rd"
      rw [List.length_map, List.take_length, hb]
      exact q _ s1
abbrev s_law : Stmt := top 33
theorem sc_law : FnScope ["_law_script", "_law_k", "_law_state_here", "_law_calls", "_law_base", "_law_far_here", "_law_late", "_law_n", "_law_none_here", "_law_often", "_law_call"] ["_law_script"] (defScope s_law) := ⟨rfl, rfl, rfl, by decide +kernel, rfl, by decide +kernel, by decide +kernel⟩
def lm_law_0 (c_raised : Cl P w K mg base (L2.CX P w) 5 "raised" (spRaised K er)) : { t : XK → TE // ∀ (g : Addr) (cdv : Value) (A : Around) (outer : List Env) (s : Shared) (H : Hp) (E : XK), LamOk (cxOf CX0 P w K mg base ["_law_script", "_law_k", "_law_state_here", "_law_calls", "_law_base", "_law_far_here", "_law_late", "_law_n", "_law_none_here", "_law_often", "_law_call"] "law" (defScope s_law) g cdv A outer s H E).nox 5 (lamD s_law 0 t) } :=
  ⟨_, fun g cdv A outer s H E => ⟨lamS_by (sc := defScope s_law) (scope := (lamP s_law 0).2.2) (by decide +kernel), fun _ _ _ _ _ => rfl, fun A outer s H E f c hr hgd => by
    change PE _ (.Call _ _ _ _) _
    exact pe_cast ((pe_clx (takes_of rfl rfl rfl rfl) (fun _ _ _ _ h => h) c_raised hr hgd (by decide) rfl (pa_cons (pv 5) (pa_cons (pv 6) (pa_cons (pv 8) pa_nil))))) rfl⟩⟩
def lm_law_1 (c_raised : Cl P w K mg base (L2.CX P w) 5 "raised" (spRaised K er)) : { t : XK → TE // ∀ (g : Addr) (cdv : Value) (A : Around) (outer : List Env) (s : Shared) (H : Hp) (E : XK), LamOk (cxOf CX0 P w K mg base ["_law_script", "_law_k", "_law_state_here", "_law_calls", "_law_base", "_law_far_here", "_law_late", "_law_n", "_law_none_here", "_law_often", "_law_call"] "law" (defScope s_law) g cdv A outer s H E).nox 5 (lamD s_law 1 t) } :=
  ⟨_, fun g cdv A outer s H E => ⟨lamS_by (sc := defScope s_law) (scope := (lamP s_law 1).2.2) (by decide +kernel), fun _ _ _ _ _ => rfl, fun A outer s H E f c hr hgd => by
    change PE _ (.Call _ _ _ _) _
    exact pe_cast ((pe_clx (takes_of rfl rfl rfl rfl) (fun _ _ _ _ h => h) c_raised hr hgd (by decide) rfl (pa_cons (pv 5) (pa_cons (pv 9) (pa_cons (pv 7) pa_nil))))) rfl⟩⟩
def lm_law_2 (c_raised : Cl P w K mg base (L2.CX P w) 5 "raised" (spRaised K er)) : { t : XK → TE // ∀ (g : Addr) (cdv : Value) (A : Around) (outer : List Env) (s : Shared) (H : Hp) (E : XK), LamOk (cxOf CX0 P w K mg base ["_law_script", "_law_k", "_law_state_here", "_law_calls", "_law_base", "_law_far_here", "_law_late", "_law_n", "_law_none_here", "_law_often", "_law_call"] "law" (defScope s_law) g cdv A outer s H E).nox 5 (lamD s_law 2 t) } :=
  ⟨_, fun g cdv A outer s H E => ⟨lamS_by (sc := defScope s_law) (scope := (lamP s_law 2).2.2) (by decide +kernel), fun _ _ _ _ _ => rfl, fun A outer s H E f c hr hgd => by
    change PE _ (.Call _ _ _ _) _
    exact pe_cast ((pe_clx (takes_of rfl rfl rfl rfl) (fun _ _ _ _ h => h) c_raised hr hgd (by decide) rfl (pa_cons (pv 4) (pa_cons (pv 6) (pa_cons (pv 7) pa_nil))))) rfl⟩⟩
def lm_law_3 (c_raised : Cl P w K mg base (L2.CX P w) 5 "raised" (spRaised K er)) : { t : XK → TE // ∀ (g : Addr) (cdv : Value) (A : Around) (outer : List Env) (s : Shared) (H : Hp) (E : XK), LamOk (cxOf CX0 P w K mg base ["_law_script", "_law_k", "_law_state_here", "_law_calls", "_law_base", "_law_far_here", "_law_late", "_law_n", "_law_none_here", "_law_often", "_law_call"] "law" (defScope s_law) g cdv A outer s H E).nox 5 (lamD s_law 3 t) } :=
  ⟨_, fun g cdv A outer s H E => ⟨lamS_by (sc := defScope s_law) (scope := (lamP s_law 3).2.2) (by decide +kernel), fun _ _ _ _ _ => rfl, fun A outer s H E f c hr hgd => by
    change PE _ (.Call _ _ _ _) _
    exact pe_cast ((pe_clx (takes_of rfl rfl rfl rfl) (fun _ _ _ _ h => h) c_raised hr hgd (by decide) rfl (pa_cons (pv 4) (pa_cons (pv 9) (pa_cons (pv 8) pa_nil))))) rfl⟩⟩
theorem fam_law (c_raised : Cl P w K mg base (L2.CX P w) 5 "raised" (spRaised K er)) (g : Addr) (cdv : Value) (A : Around) (outer : List Env) (s : Shared) (H : Hp) (E : XK) : ∀ d ∈ ([lamD s_law 0 (lm_law_0 c_raised).1, lamD s_law 1 (lm_law_1 c_raised).1, lamD s_law 2 (lm_law_2 c_raised).1, lamD s_law 3 (lm_law_3 c_raised).1] : List LamD), LamOk (cxOf CX0 P w K mg base ["_law_script", "_law_k", "_law_state_here", "_law_calls", "_law_base", "_law_far_here", "_law_late", "_law_n", "_law_none_here", "_law_often", "_law_call"] "law" (defScope s_law) g cdv A outer s H E).nox 5 d := by
  intro d hd
  simp only [List.mem_cons, List.not_mem_nil, or_false] at hd
  rcases hd with rfl | rfl | rfl | rfl
  · exact (lm_law_0 c_raised).2 _ _ _ _ _ _ _
  · exact (lm_law_1 c_raised).2 _ _ _ _ _ _ _
  · exact (lm_law_2 c_raised).2 _ _ _ _ _ _ _
  · exact (lm_law_3 c_raised).2 _ _ _ _ _ _ _
theorem ok_law {f : Addr} {fd : FuncData} (F : Fun K "law" "law" s_law f fd) {Tt : List (Addr × Str)} {cc_law pp_law : Addr} (tb_law : TabD base mg fd cc_law pp_law) (hm_law : (pp_law, lq "law") ∈ Tt) (hu_law : ∀ p ∈ Tt, p.1 = pp_law → p.2 = lq "law") (c_raised : Cl P w K mg base (L2.CX P w) 5 "raised" (spRaised K er)) (c__law_state : Cl P w K mg base CX0 2 "_law_state" (spState K)) (c__law_take : Cl P w K mg base CX0 1 "_law_take" (spTake)) (c__law_same : Cl P w K mg base CX0 1 "_law_same" (spSame0)) (c__law_word : ClG P w K mg base 0 "_law_word" (ttWord K er)) (c__law_far : Cl P w K mg base CX0 2 "_law_far" (spTake)) (c__law_number : Cl P w K mg base CX0 3 "_law_number" (spDraw1 1 BIG)) (c__law_far_number : Cl P w K mg base CX0 4 "_law_far_number" (spDraw1 (-BIG) BIG)) (c__law_none : Cl P w K mg base CX0 2 "_law_none" (spNone K)) (c__law_power : Cl P w K mg base CX0 2 "_law_power" (spPowB)) (z_len : mg "len" = none) (z_max : mg "max" = none) (z_min : mg "min" = none) (z_range : mg "range" = none) (w_NoNumber : Kits K er 0 "NoNumber") : FnG P w K mg base CX0 8 f fd ["_law_script"] (spLawT K Tt) := by
  refine fnG0c F sc_law (fun vs H Q E h => ?_) (fun cdv A outer s H vs Q E hcode0 hr hgd h => ?_)
  · obtain ⟨a, ns, rfl, _⟩ := h
    rfl
  · obtain ⟨a, ns, rfl, hS, hlen, hTt, q⟩ := h
    have nd := sc_law.nd
    have hcode : cdv = .ref cc_law := hcode0.symm.trans tb_law.code
    refine ⟨_, (pss_cons (ps_for PassesOwn.never rfl (pi_range1 (by rfl) z_range (pa_cons (pe_callB (call_max2 rfl) (by rfl) z_max (by decide +kernel) (pa_cons pe_int (pa_cons (pe_callB (call_min2 rfl) (by rfl) z_min (by decide +kernel) (pa_cons (pe_callB call_len_seq (by rfl) z_len PySem.boot_len (pa_cons (pv 0) pa_nil)) (pa_cons pe_int pa_nil))) pa_nil))) pa_nil)) (pg_name (i := 1) nd rfl (.inl rfl))
        (pss_cons (ps_set (i := 2) nd rfl (.inl rfl) (pe_cl c__law_state hr hgd (by decide) rfl (pa_cons (pv 0) (pa_cons (pv 1) pa_nil))))
          (pss_cons (ps_asg (pe_tup (pa_cons (pe_cl c__law_far_number hr hgd (by decide) rfl (pa_cons (pv 2) pa_nil)) (pa_cons (pe_cl c__law_number hr hgd (by decide) rfl (pa_cons (pv 2) pa_nil)) pa_nil))) (pg_tup rfl (pgs_cons (pg_name (i := 4) nd rfl (.inr rfl)) (pgs_cons (pg_name (i := 7) nd rfl (.inr rfl)) pgs_nil))))
          (pss_cons (ps_set (i := 9) nd rfl (.inr rfl) (pe_ix ix_list (pe_lst (pa_cons (pe_cl c__law_take hr hgd (by decide) rfl (pa_cons (pv 2) (pa_cons pe_int pa_nil))) (pa_cons (pe_cl c__law_far hr hgd (by decide) rfl (pa_cons (pv 2) (pa_cons (pe_op op_pow pe_int pe_int) pa_nil))) (pa_cons pe_int (pa_cons (pe_op op_pow pe_int pe_int) (pa_cons (pe_op op_sub (pv 7) pe_int) pa_nil)))))) (pe_cl c__law_take hr hgd (by decide) rfl (pa_cons (pv 2) (pa_cons pe_int pa_nil))) (fun _ _ => rfl)))
          (pss_cons (ps_if (pt_not (pt_val (pe_cl c__law_same hr hgd (by decide) rfl (pa_cons (pe_cln c_raised hr hgd (by decide) rfl (pa_cons (pv 4) (pa_cons (pv 9) (pa_cons (pv 7) pa_nil)))) (pa_cons (pe_cl c__law_power hr hgd (by decide) rfl (pa_cons (pe_op op_mod (pv 4) (pv 7)) (pa_cons (pv 9) (pa_cons (pv 7) pa_nil)))) pa_nil)))))
            (pss_one (ps_ret pe_bl))
            pss_nil)
          (pss_cons (ps_asg (pe_tup (pa_cons (pe_cl c__law_none hr hgd (by decide) rfl (pa_cons (pv 2) (pa_cons (pe_un un_neg (pe_op op_pow pe_int pe_int)) (pa_cons (pe_op op_pow pe_int pe_int) pa_nil)))) (pa_cons (pe_cl c__law_none hr hgd (by decide) rfl (pa_cons (pv 2) (pa_cons pe_int (pa_cons (pe_op op_pow pe_int pe_int) pa_nil)))) pa_nil))) (pg_tup rfl (pgs_cons (pg_name (i := 5) nd rfl (.inr rfl)) (pgs_cons (pg_name (i := 6) nd rfl (.inr rfl)) pgs_nil))))
          (pss_cons (ps_set (i := 8) nd rfl (.inr rfl) (pe_cl c__law_none hr hgd (by decide) rfl (pa_cons (pv 2) (pa_cons pe_int (pa_cons (pe_op op_pow pe_int pe_int) pa_nil)))))
          (pss_cons (ps_set (i := 3) nd rfl (.inl rfl) (pe_lst (pa_cons (pe_lamV (d := lamD s_law 0 (lm_law_0 c_raised).1) tb_law.tab hcode hm_law hu_law rfl ((lm_law_0 c_raised).2 _ _ _ _ _ _ _)) pa_nil)))
          (pss_cons (ps_expr (pe_bm PySem.F.plainAttrs_list PySem.F.slot_list_append PySem.F.type_list_append mt_append (pv 3) (pa_cons (pe_lamV (d := lamD s_law 1 (lm_law_1 c_raised).1) tb_law.tab hcode hm_law hu_law rfl ((lm_law_1 c_raised).2 _ _ _ _ _ _ _)) pa_nil)))
          (pss_cons (ps_expr (pe_bm PySem.F.plainAttrs_list PySem.F.slot_list_append PySem.F.type_list_append mt_append (pv 3) (pa_cons (pe_lamV (d := lamD s_law 2 (lm_law_2 c_raised).1) tb_law.tab hcode hm_law hu_law rfl ((lm_law_2 c_raised).2 _ _ _ _ _ _ _)) pa_nil)))
          (pss_cons (ps_expr (pe_bm PySem.F.plainAttrs_list PySem.F.slot_list_append PySem.F.type_list_append mt_append (pv 3) (pa_cons (pe_lamV (d := lamD s_law 3 (lm_law_3 c_raised).1) tb_law.tab hcode hm_law hu_law rfl ((lm_law_3 c_raised).2 _ _ _ _ _ _ _)) pa_nil)))
          (pss_one (ps_if (pt_cmpR (op_neD hr.units) (pe_lcGive (iy := 10) c__law_word hr hgd (by decide) (by decide) (fam_law c_raised _ _ _ _ _ _ _) rfl nd (pi_list (pv 3)) (blkOk_by (N := ["_law_script", "_law_k", "_law_state_here", "_law_calls", "_law_base", "_law_far_here", "_law_late", "_law_n", "_law_none_here", "_law_often", "_law_call"]) (sc := defScope s_law) (by decide +kernel)) rfl (fun _ _ _ _ _ => rfl)) (pe_op op_rep (pe_lst (pa_cons pe_str pa_nil)) pe_int) (nomark _))
            (pss_one (ps_ret pe_bl))
            pss_nil)))))))))))))
      (pss_one (ps_ret (pe_cmpR (op_eqD hr.units) (pe_lst (pa_cons (pe_cln c_raised hr hgd (by decide) rfl (pa_cons pe_int (pa_cons pe_int (pa_cons pe_int pa_nil)))) (pa_cons (pe_cln c_raised hr hgd (by decide) rfl (pa_cons pe_int (pa_cons pe_int (pa_cons pe_int pa_nil)))) (pa_cons (pe_cln c_raised hr hgd (by decide) rfl (pa_cons (pe_un un_neg pe_int) (pa_cons pe_int (pa_cons pe_int pa_nil)))) (pa_cons (pe_cln c_raised hr hgd (by decide) rfl (pa_cons pe_int (pa_cons pe_int (pa_cons pe_int pa_nil)))) pa_nil))))) (pe_lst (pa_cons pe_int (pa_cons pe_int (pa_cons pe_int (pa_cons pe_int pa_nil))))) (nomark _))))), ?_⟩
    obtain ⟨Pv, hP⟩ : ∃ Pv : Nat → L2.St → Hp → Prop, Pv = fun _ σ H' => ∃ o1 o2 o3 o4 o5 o6 o7 o8 o9 o10 : Option V, σ = [some (V.ref a), o1, o2, o3, o4, o5, o6, o7, o8, o9, o10] ∧ SqL K H' a (ns.map V.int) ∧ Tabs Tt H' := ⟨_, rfl⟩
    have mk : ∀ {i : Nat} {o1 o2 o3 o4 o5 o6 o7 o8 o9 o10 : Option V} {H' : Hp}, SqL K H' a (ns.map V.int) → Tabs Tt H' → Pv i [some (V.ref a), o1, o2, o3, o4, o5, o6, o7, o8, o9, o10] H' := fun h1 h2 => by rw [hP]; exact ⟨_, _, _, _, _, _, _, _, _, _, rfl, h1, h2⟩
    refine lawFor (K := K) (c := 6) Pv hS rfl (by rw [List.length_map]; omega) (by decide) (by decide) (mk hS hTt) (fun i σ H1 h => ?_) (fun i σ H1 h => ?_)
    · rw [hP] at h
      obtain ⟨o1, o2, o3, o4, o5, o6, o7, o8, o9, o10, rfl, en, tT⟩ := h
      walk_at "rd"
      refine ⟨a, ns, i, rfl, en, fun p H2 np s2 st2 => ?_⟩
      refine ⟨p, rfl, st2, fun b H3 ba bb D3 => ?_⟩
      refine ⟨p, rfl, D3.1, fun n H4 n1 n2 D4 => ?_⟩
      intro t ht
      refine ⟨_, SqT.of upd_same, rfl, _, _, rfl, _, _, rfl, rfl, ?_⟩
      have st := same_new ht (.tup [V.int b, V.int n])
      have DA := ((D3.trans D4).same st)
      generalize upd H4 t (.tup [V.int b, V.int n]) = H5 at st DA ⊢
      refine ⟨p, _, rfl, DA.1, by decide, by decide, fun r1 H6 r1a r1b D6 => ?_⟩
      refine ⟨p, _, rfl, D6.1, by decide, by decide, fun r2 H7 r2a r2b D7 => ?_⟩
      refine ⟨n, rfl, fun p2 hp2 => ?_⟩
      have DB := (DA.trans D6).trans D7
      have np2 := DB.ne hp2
      have s8 := same_new hp2 (.lst [V.int r1, V.int r2, V.int 0, V.int 1000000000000000000000000000000, V.int (n - 1)])
      have e8 : upd H7 p2 (.lst [V.int r1, V.int r2, V.int 0, V.int 1000000000000000000000000000000, V.int (n - 1)]) p2 = _ := upd_same
      have DC := DB.same s8
      generalize upd H7 p2 (.lst [V.int r1, V.int r2, V.int 0, V.int 1000000000000000000000000000000, V.int (n - 1)]) = H8 at s8 e8 DC ⊢
      refine ⟨p, _, rfl, DC.1, by decide, by decide, fun r3 H9 r3a r3b D9 => ?_⟩
      have DD := DC.trans D9
      refine memD (SqL.of (D9.keep e8 np2)) r3a r3b fun v hv => ?_
      have hv' : ∃ o : Nat, v = .int o ∧ (o : Int) ≤ BIG := by
        simp only [List.mem_cons, List.not_mem_nil, or_false] at hv
        rcases hv with rfl | rfl | rfl | rfl | rfl
        · exact ⟨r1.toNat, by rw [Int.toNat_of_nonneg r1a], by walk_at "om"⟩
        · exact ⟨r2.toNat, by rw [Int.toNat_of_nonneg r2a], by walk_at "om"⟩
        · exact ⟨0, rfl, by decide⟩
        · exact ⟨1000000000000000000000000000000, rfl, by decide⟩
        · exact ⟨(n - 1).toNat, by rw [Int.toNat_of_nonneg (by omega)], by walk_at "om"⟩
      obtain ⟨o, rfl, oB⟩ := hv'
      clear hv
      have b3 := Int.emod_nonneg b (show n ≠ 0 by omega)
      have b4 := Int.emod_lt_of_pos b (show 0 < n by omega)
      refine okRaised ba bb (by omega) oB n1 n2 ?_
      refine ⟨b, rfl, n, rfl, by omega, b % n, n, o, rfl, by walk_at "om", by omega, by walk_at "om", by walk_at "om", by walk_at "om", fun H10 s10 => ?_⟩
      have DE := DD.same s10
      rw [PowN.mod_pow, show ((o : Int)).toNat = o by omega]
      refine ⟨_, rfl, .inl ⟨_, rfl⟩, fun H11 s11 => ⟨true, rfl, ?_⟩⟩
      walk_at "rd"
      have DF := DE.same s11
      refine ⟨p, _, _, rfl, DF.1, by decide, by decide, by decide, fun far H12 kf rf nf D12 => ?_⟩
      refine ⟨p, _, _, rfl, D12.1, by decide, by decide, by decide, fun late H13 kl rl nl D13 => ?_⟩
      intro t2 ht2
      refine ⟨_, SqT.of upd_same, rfl, _, _, rfl, _, _, rfl, rfl, ?_⟩
      have kf1 := kf.draw (fun b z => (nf b z).1) D13
      have s14 := same_new ht2 (.tup [far, late])
      have kf2 := kf1.same s14
      have kl2 := kl.same s14
      have DG := ((DF.trans D12).trans D13).same s14
      generalize upd H13 t2 (.tup [far, late]) = H14 at s14 kf2 kl2 DG ⊢
      refine ⟨p, _, _, rfl, DG.1, by decide, by decide, by decide, fun none' H15 kn rn nn D15 => ?_⟩
      have sX : Same H1 H15 := s2.draw np (DG.trans D15)
      have tA := tabs_same tT sX
      have sqA := sX.seq en
      have kf3 := kf2.draw (fun b z => (nf b z).1) D15
      have kl3 := kl2.draw (fun b z => (nl b z).1) D15
      clear kf kf1 kf2 kl kl2
      refine ⟨tA, fun f1 H16 x1 t1 l1 p1 hp1 => ?_⟩
      have sqB := SqL.extN sqA x1
      have kf4 := kf3.extN x1
      have kl4 := kl3.extN x1
      have kn4 := kn.extN x1
      have y1 := same_new hp1 (.lst [V.ref f1])
      have e1 : upd H16 p1 (.lst [V.ref f1]) p1 = some (.lst [V.ref f1]) := upd_same
      have xA : ExtN H16 (upd H16 p1 (.lst [V.ref f1])) := extN_of y1
      have t1a := tabs_same t1 y1
      have l1a := l1.same y1
      generalize upd H16 p1 (.lst [V.ref f1]) = H17 at y1 e1 xA t1a l1a ⊢
      refine ⟨tyL e1, t1a, fun f2 H18 x2 t2' l2 => ⟨_, x2 _ _ e1 (fun _ z => by cases z), by simp, ?_⟩⟩
      have u2 : NL H18 (upd H18 p1 (.lst ([V.ref f1] ++ [V.ref f2]))) := NL.lst (x2 _ _ e1 fun _ z => by cases z) _
      have xB : ExtN H16 (upd H18 p1 (.lst ([V.ref f1] ++ [V.ref f2]))) := extN_upd (xA.trans x2) hp1
      have e2 : upd H18 p1 (.lst ([V.ref f1] ++ [V.ref f2])) p1 = some (.lst ([V.ref f1] ++ [V.ref f2])) := upd_same
      have l1b := isLam_nl (l1a.ext x2) u2
      have l2b := isLam_nl l2 u2
      have t2b := tabs_nl t2' u2
      generalize upd H18 p1 (.lst ([V.ref f1] ++ [V.ref f2])) = H19 at u2 xB e2 l1b l2b t2b ⊢
      refine ⟨tyL e2, t2b, fun f3 H20 x3 t3 l3 => ⟨_, x3 _ _ e2 (fun _ z => by cases z), by simp, ?_⟩⟩
      have u3 : NL H20 (upd H20 p1 (.lst ([V.ref f1] ++ [V.ref f2] ++ [V.ref f3]))) := NL.lst (x3 _ _ e2 fun _ z => by cases z) _
      have xC : ExtN H16 (upd H20 p1 (.lst ([V.ref f1] ++ [V.ref f2] ++ [V.ref f3]))) := extN_upd (xB.trans x3) hp1
      have e3 : upd H20 p1 (.lst ([V.ref f1] ++ [V.ref f2] ++ [V.ref f3])) p1 = some (.lst ([V.ref f1] ++ [V.ref f2] ++ [V.ref f3])) := upd_same
      have l1c := isLam_nl (l1b.ext x3) u3
      have l2c := isLam_nl (l2b.ext x3) u3
      have l3c := isLam_nl l3 u3
      have t3c := tabs_nl t3 u3
      generalize upd H20 p1 (.lst ([V.ref f1] ++ [V.ref f2] ++ [V.ref f3])) = H21 at u3 xC e3 l1c l2c l3c t3c ⊢
      refine ⟨tyL e3, t3c, fun f4 H22 x4 t4 l4 => ⟨_, x4 _ _ e3 (fun _ z => by cases z), by simp, ?_⟩⟩
      have u4 : NL H22 (upd H22 p1 (.lst ([V.ref f1] ++ [V.ref f2] ++ [V.ref f3] ++ [V.ref f4]))) := NL.lst (x4 _ _ e3 fun _ z => by cases z) _
      have xD : ExtN H16 (upd H22 p1 (.lst ([V.ref f1] ++ [V.ref f2] ++ [V.ref f3] ++ [V.ref f4]))) := extN_upd (xC.trans x4) hp1
      have e4 : upd H22 p1 (.lst ([V.ref f1] ++ [V.ref f2] ++ [V.ref f3] ++ [V.ref f4])) p1 = some (.lst ([V.ref f1] ++ [V.ref f2] ++ [V.ref f3] ++ [V.ref f4])) := upd_same
      have l1d := isLam_nl (l1c.ext x4) u4
      have l2d := isLam_nl (l2c.ext x4) u4
      have l3d := isLam_nl (l3c.ext x4) u4
      have l4d := isLam_nl l4 u4
      have t4d := tabs_nl t4 u4
      generalize upd H22 p1 (.lst ([V.ref f1] ++ [V.ref f2] ++ [V.ref f3] ++ [V.ref f4])) = H23 at u4 xD e4 l1d l2d l3d l4d t4d ⊢
      have kf5 := kf4.extN xD
      have kl5 := kl4.extN xD
      have kn5 := kn4.extN xD
      have sqC := SqL.extN sqB xD
      refine tLcI_list (p := p1) (xs := [V.ref f1] ++ [V.ref f2] ++ [V.ref f3] ++ [V.ref f4]) rfl (SqL.of e4) fun D hD => ?_
      obtain ⟨Pv2, hP2⟩ : ∃ Pv2 : Nat → Hp → Prop, Pv2 = fun i H' => H' D = some (.lst (List.replicate i (V.str "number"))) ∧ Same H23 H' := ⟨_, rfl⟩
      have mk2 : ∀ (i : Nat) H', Same H23 H' → Pv2 i (upd H' D (.lst (List.replicate i (V.str "number")))) := fun i H' h1 => by
        rw [hP2]
        exact ⟨upd_same, fun b u q => by rw [upd_ne (ne_of_none q hD)]; exact h1 b u q⟩
      have bad : ∀ (i : Nat) (hi4 : i < 4) (H' : Hp) (vb vo vn : V) (L : Addr → Hp → Prop) (tl : XK → Hp → VK → Prop) (f : Addr), Pv2 i H' → Kd K H23 vb → Kd K H23 vo → Kd K H23 vn → (inR vb (-BIG) BIG && inR vo 0 BIG && inR vn 1 BIG) = false →
          (∀ E2 Q2, spRaised K er [vb, vo, vn] H' Q2 E2 → tl E2 H' Q2) →
          ttWord K er L tl f H' fun y H4 => ∃ acc, H4 D = some (.lst acc) ∧ acc.length < sizeLine ∧ Pv2 (i + 1) (upd H4 D (.lst (acc ++ [y]))) := by
        intro i hi4 H' vb vo vn L tl f h k1 k2 k3 hb ht E2 Q2 hE _
        rw [hP2] at h
        obtain ⟨g1, g2⟩ := h
        refine ht _ _ (badRaised (k1.same g2) (k2.same g2) (k3.same g2) hb (hE 0 "NoNumber" "number" H' (by decide) w_NoNumber rfl fun H4 s4 => ?_))
        refine ⟨_, s4 _ _ g1, by rw [List.length_replicate]; exact szl (by omega), ?_⟩
        have := mk2 (i + 1) H4 (g2.trans s4)
        rwa [List.replicate_succ'] at this
      refine ⟨Pv2, mk2 0 _ (Same.refl _), fun i H' h => ?_, fun i x H' hx h => ?_, fun H' h => ?_⟩
      · rw [hP2] at h
        exact h.2.seq (SqL.of e4)
      · have sm : Same H23 H' := by rw [hP2] at h; exact h.2
        have hi : i = 0 ∨ i = 1 ∨ i = 2 ∨ i = 3 := by
          have := (List.getElem?_eq_some_iff.mp hx).1
          simp at this
          omega
        have rN := rn
        rcases hi with rfl | rfl | rfl | rfl
        · cases hx
          refine ⟨_, List.mem_cons_self, f1, rfl, l1d.same sm, bad 0 (by decide) H' far late none' _ _ _ h kf5 kl5 kn5 (by rw [rf]; rfl) fun E2 Q2 z => ?_⟩
          show tCl (spRaised K er) E2 (tCons (tVar 5) (tCons (tVar 6) (tCons (tVar 8) tNil))) _ H' Q2
          exact ⟨_, rfl, _, rfl, _, rfl, z⟩
        · cases hx
          refine ⟨_, List.mem_cons_of_mem _ List.mem_cons_self, f2, rfl, l2d.same sm, bad 1 (by decide) H' far (.int o) (.int n) _ _ _ h kf5 (kI _) (kI _) (by rw [rf]; rfl) fun E2 Q2 z => ?_⟩
          show tCl (spRaised K er) E2 (tCons (tVar 5) (tCons (tVar 9) (tCons (tVar 7) tNil))) _ H' Q2
          exact ⟨_, rfl, _, rfl, _, rfl, z⟩
        · cases hx
          refine ⟨_, List.mem_cons_of_mem _ (List.mem_cons_of_mem _ List.mem_cons_self), f3, rfl, l3d.same sm, bad 2 (by decide) H' (.int b) late (.int n) _ _ _ h (kI _) kl5 (kI _) (by rw [rl, Bool.and_false]; rfl) fun E2 Q2 z => ?_⟩
          show tCl (spRaised K er) E2 (tCons (tVar 4) (tCons (tVar 6) (tCons (tVar 7) tNil))) _ H' Q2
          exact ⟨_, rfl, _, rfl, _, rfl, z⟩
        · cases hx
          refine ⟨_, List.mem_cons_of_mem _ (List.mem_cons_of_mem _ (List.mem_cons_of_mem _ List.mem_cons_self)), f4, rfl, l4d.same sm, bad 3 (by decide) H' (.int b) (.int o) none' _ _ _ h (kI _) (kI _) kn5 (by rw [rn, Bool.and_false]) fun E2 Q2 z => ?_⟩
          show tCl (spRaised K er) E2 (tCons (tVar 4) (tCons (tVar 9) (tCons (tVar 8) tNil))) _ H' Q2
          exact ⟨_, rfl, _, rfl, _, rfl, z⟩
      · rw [hP2] at h
        obtain ⟨g1, g2⟩ := h
        intro p9 hp9
        have v1 := same_new hp9 (.lst [V.str (Str.ofString "number")])
        have w1 : upd H' p9 (.lst [V.str (Str.ofString "number")]) p9 = _ := upd_same
        generalize upd H' p9 (.lst [V.str (Str.ofString "number")]) = H24 at v1 w1 ⊢
        refine ⟨p9, 4, _, rfl, rfl, w1, by decide, by decide, by decide, fun p10 hp10 => ?_⟩
        have v2 := same_new hp10 (.lst (List.replicate (4 : Int).toNat [V.str (Str.ofString "number")]).flatten)
        have w2 : upd H24 p10 (.lst (List.replicate (4 : Int).toNat [V.str (Str.ofString "number")]).flatten) p10 = some (.lst (List.replicate 4 (V.str "number"))) := upd_same
        generalize upd H24 p10 (.lst (List.replicate (4 : Int).toNat [V.str (Str.ofString "number")]).flatten) = H25 at v2 w2 ⊢
        have g3 : H25 D = some (.lst (List.replicate 4 (V.str "number"))) := v2 _ _ (v1 _ _ g1)
        refine ⟨_, _, .lst (SqL.of g3) (dp_strs _ 4), .lst (SqL.of w2) (dp_strs _ 4), by decide +kernel, by decide +kernel, ?_⟩
        have sm := (g2.trans v1).trans v2
        refine ⟨_, rfl, iteF' (by decide +kernel) ?_⟩
        exact mk (sm.seq sqC) (tabs_same t4d sm)
    · rw [hP] at h
      obtain ⟨o1, o2, o3, o4, o5, o6, o7, o8, o9, o10, rfl, en, tT⟩ := h
      walk_at "rd"
      refine okRaised (b := 2) (o := 10) (n := 1000) (by walk_at "om") (by walk_at "om") (by decide) (by walk_at "om") (by decide) (by walk_at "om") ?_
      refine okRaised (b := 0) (o := 0) (n := 1) (by walk_at "om") (by walk_at "om") (by decide) (by walk_at "om") (by decide) (by walk_at "om") ?_
      refine okRaised (b := -1) (o := 3) (n := 7) (by walk_at "om") (by walk_at "om") (by decide) (by walk_at "om") (by decide) (by walk_at "om") ?_
      refine okRaised (b := 0) (o := 0) (n := 5) (by walk_at "om") (by walk_at "om") (by decide) (by walk_at "om") (by decide) (by walk_at "om") ?_
      intro p1 hp1 p2 hp2
      refine ⟨.list ([24, 0, 6, 1].map PyData.int), .list ([24, 0, 6, 1].map PyData.int), .lst (SqL.of (same_new hp2 _ _ _ upd_same)) (dp_ints [24, 0, 6, 1]), .lst (SqL.of upd_same) (dp_ints [24, 0, 6, 1]), by decide +kernel, by decide +kernel, ?_⟩
      rw [show PyData.eqv (.list ([24, 0, 6, 1].map PyData.int)) (.list ([24, 0, 6, 1].map PyData.int)) = true by decide +kernel]
      exact q _
end
theorem all_mk {l : PySem.W.OpenLaw} {w : World} {K : PySem.W.Frag} {h : Heap} {mg : Str → Option Value} {fa : Addr} (X : K.In h) (G : h.Ns mainGlobals mg) (hfa : mg "law" = some (.ref fa))
    {f0 : Addr} {od0 an0 : Option Addr} {sl0 : Array (Option Value)} {oc0 kV0 dc0 pm0 cd0 ct0 : Value}
    (a0 : PySem.W.nsIn K mainGlobals "is_whole" = some (some (.ref f0))) (l0 : K.lookup f0 = some ⟨oc0, od0, .func (PySem.W.fnOf "is_whole" "is_whole" (defArgs s_is_whole) (defBody s_is_whole) (defScope s_is_whole) .none kV0 dc0 pm0 an0 cd0 ct0), sl0⟩) (c0 : PySem.W.codeIn K cd0 "is_whole" = true) (k0 : PySem.W.keepIn K (.ref f0) = true)
    {f1 : Addr} {od1 an1 : Option Addr} {sl1 : Array (Option Value)} {oc1 kV1 dc1 pm1 cd1 ct1 : Value}
    (a1 : PySem.W.nsIn K mainGlobals "is_between" = some (some (.ref f1))) (l1 : K.lookup f1 = some ⟨oc1, od1, .func (PySem.W.fnOf "is_between" "is_between" (defArgs s_is_between) (defBody s_is_between) (defScope s_is_between) .none kV1 dc1 pm1 an1 cd1 ct1), sl1⟩) (c1 : PySem.W.codeIn K cd1 "is_between" = true) (k1 : PySem.W.keepIn K (.ref f1) = true)
    {f2 : Addr} {od2 an2 : Option Addr} {sl2 : Array (Option Value)} {oc2 kV2 dc2 pm2 cd2 ct2 : Value}
    (a2 : PySem.W.nsIn K mainGlobals "need_between" = some (some (.ref f2))) (l2 : K.lookup f2 = some ⟨oc2, od2, .func (PySem.W.fnOf "need_between" "need_between" (defArgs s_need_between) (defBody s_need_between) (defScope s_need_between) .none kV2 dc2 pm2 an2 cd2 ct2), sl2⟩) (c2 : PySem.W.codeIn K cd2 "need_between" = true) (k2 : PySem.W.keepIn K (.ref f2) = true)
    {f3 : Addr} {od3 an3 : Option Addr} {sl3 : Array (Option Value)} {oc3 kV3 dc3 pm3 cd3 ct3 : Value}
    (a3 : PySem.W.nsIn K mainGlobals "need_number" = some (some (.ref f3))) (l3 : K.lookup f3 = some ⟨oc3, od3, .func (PySem.W.fnOf "need_number" "need_number" (defArgs s_need_number) (defBody s_need_number) (defScope s_need_number) .none kV3 dc3 pm3 an3 cd3 ct3), sl3⟩) (c3 : PySem.W.codeIn K cd3 "need_number" = true) (k3 : PySem.W.keepIn K (.ref f3) = true)
    {f4 : Addr} {od4 an4 : Option Addr} {sl4 : Array (Option Value)} {oc4 kV4 dc4 pm4 cd4 ct4 : Value}
    (a4 : PySem.W.nsIn K mainGlobals "need_far" = some (some (.ref f4))) (l4 : K.lookup f4 = some ⟨oc4, od4, .func (PySem.W.fnOf "need_far" "need_far" (defArgs s_need_far) (defBody s_need_far) (defScope s_need_far) .none kV4 dc4 pm4 an4 cd4 ct4), sl4⟩) (c4 : PySem.W.codeIn K cd4 "need_far" = true) (k4 : PySem.W.keepIn K (.ref f4) = true)
    {f5 : Addr} {od5 an5 : Option Addr} {sl5 : Array (Option Value)} {oc5 kV5 dc5 pm5 cd5 ct5 : Value}
    (a5 : PySem.W.nsIn K mainGlobals "power_of" = some (some (.ref f5))) (l5 : K.lookup f5 = some ⟨oc5, od5, .func (PySem.W.fnOf "power_of" "power_of" (defArgs s_power_of) (defBody s_power_of) (defScope s_power_of) .none kV5 dc5 pm5 an5 cd5 ct5), sl5⟩) (c5 : PySem.W.codeIn K cd5 "power_of" = true) (k5 : PySem.W.keepIn K (.ref f5) = true)
    {f6 : Addr} {od6 an6 : Option Addr} {sl6 : Array (Option Value)} {oc6 kV6 dc6 pm6 cd6 ct6 : Value}
    (a6 : PySem.W.nsIn K mainGlobals "raised" = some (some (.ref f6))) (l6 : K.lookup f6 = some ⟨oc6, od6, .func (PySem.W.fnOf "raised" "raised" (defArgs s_raised) (defBody s_raised) (defScope s_raised) .none kV6 dc6 pm6 an6 cd6 ct6), sl6⟩) (c6 : PySem.W.codeIn K cd6 "raised" = true) (k6 : PySem.W.keepIn K (.ref f6) = true)
    {f7 : Addr} {od7 an7 : Option Addr} {sl7 : Array (Option Value)} {oc7 kV7 dc7 pm7 cd7 ct7 : Value}
    (a7 : PySem.W.nsIn K mainGlobals "_law_cell_at" = some (some (.ref f7))) (l7 : K.lookup f7 = some ⟨oc7, od7, .func (PySem.W.fnOf "_law_cell_at" "_law_cell_at" (defArgs s__law_cell_at) (defBody s__law_cell_at) (defScope s__law_cell_at) .none kV7 dc7 pm7 an7 cd7 ct7), sl7⟩) (c7 : PySem.W.codeIn K cd7 "_law_cell_at" = true) (k7 : PySem.W.keepIn K (.ref f7) = true)
    {f8 : Addr} {od8 an8 : Option Addr} {sl8 : Array (Option Value)} {oc8 kV8 dc8 pm8 cd8 ct8 : Value}
    (a8 : PySem.W.nsIn K mainGlobals "_law_state" = some (some (.ref f8))) (l8 : K.lookup f8 = some ⟨oc8, od8, .func (PySem.W.fnOf "_law_state" "_law_state" (defArgs s__law_state) (defBody s__law_state) (defScope s__law_state) .none kV8 dc8 pm8 an8 cd8 ct8), sl8⟩) (c8 : PySem.W.codeIn K cd8 "_law_state" = true) (k8 : PySem.W.keepIn K (.ref f8) = true)
    {f9 : Addr} {od9 an9 : Option Addr} {sl9 : Array (Option Value)} {oc9 kV9 dc9 pm9 cd9 ct9 : Value}
    (a9 : PySem.W.nsIn K mainGlobals "_law_take" = some (some (.ref f9))) (l9 : K.lookup f9 = some ⟨oc9, od9, .func (PySem.W.fnOf "_law_take" "_law_take" (defArgs s__law_take) (defBody s__law_take) (defScope s__law_take) .none kV9 dc9 pm9 an9 cd9 ct9), sl9⟩) (c9 : PySem.W.codeIn K cd9 "_law_take" = true) (k9 : PySem.W.keepIn K (.ref f9) = true)
    {f10 : Addr} {od10 an10 : Option Addr} {sl10 : Array (Option Value)} {oc10 kV10 dc10 pm10 cd10 ct10 : Value}
    (a10 : PySem.W.nsIn K mainGlobals "_law_same" = some (some (.ref f10))) (l10 : K.lookup f10 = some ⟨oc10, od10, .func (PySem.W.fnOf "_law_same" "_law_same" (defArgs s__law_same) (defBody s__law_same) (defScope s__law_same) .none kV10 dc10 pm10 an10 cd10 ct10), sl10⟩) (c10 : PySem.W.codeIn K cd10 "_law_same" = true) (k10 : PySem.W.keepIn K (.ref f10) = true)
    {f11 : Addr} {od11 an11 : Option Addr} {sl11 : Array (Option Value)} {oc11 kV11 dc11 pm11 cd11 ct11 : Value}
    (a11 : PySem.W.nsIn K mainGlobals "_law_word" = some (some (.ref f11))) (l11 : K.lookup f11 = some ⟨oc11, od11, .func (PySem.W.fnOf "_law_word" "_law_word" (defArgs s__law_word) (defBody s__law_word) (defScope s__law_word) .none kV11 dc11 pm11 an11 cd11 ct11), sl11⟩) (c11 : PySem.W.codeIn K cd11 "_law_word" = true) (k11 : PySem.W.keepIn K (.ref f11) = true)
    {f12 : Addr} {od12 an12 : Option Addr} {sl12 : Array (Option Value)} {oc12 kV12 dc12 pm12 cd12 ct12 : Value}
    (a12 : PySem.W.nsIn K mainGlobals "_law_far" = some (some (.ref f12))) (l12 : K.lookup f12 = some ⟨oc12, od12, .func (PySem.W.fnOf "_law_far" "_law_far" (defArgs s__law_far) (defBody s__law_far) (defScope s__law_far) .none kV12 dc12 pm12 an12 cd12 ct12), sl12⟩) (c12 : PySem.W.codeIn K cd12 "_law_far" = true) (k12 : PySem.W.keepIn K (.ref f12) = true)
    {f13 : Addr} {od13 an13 : Option Addr} {sl13 : Array (Option Value)} {oc13 kV13 dc13 pm13 cd13 ct13 : Value}
    (a13 : PySem.W.nsIn K mainGlobals "_law_number" = some (some (.ref f13))) (l13 : K.lookup f13 = some ⟨oc13, od13, .func (PySem.W.fnOf "_law_number" "_law_number" (defArgs s__law_number) (defBody s__law_number) (defScope s__law_number) .none kV13 dc13 pm13 an13 cd13 ct13), sl13⟩) (c13 : PySem.W.codeIn K cd13 "_law_number" = true) (k13 : PySem.W.keepIn K (.ref f13) = true)
    {f14 : Addr} {od14 an14 : Option Addr} {sl14 : Array (Option Value)} {oc14 kV14 dc14 pm14 cd14 ct14 : Value}
    (a14 : PySem.W.nsIn K mainGlobals "_law_far_number" = some (some (.ref f14))) (l14 : K.lookup f14 = some ⟨oc14, od14, .func (PySem.W.fnOf "_law_far_number" "_law_far_number" (defArgs s__law_far_number) (defBody s__law_far_number) (defScope s__law_far_number) .none kV14 dc14 pm14 an14 cd14 ct14), sl14⟩) (c14 : PySem.W.codeIn K cd14 "_law_far_number" = true) (k14 : PySem.W.keepIn K (.ref f14) = true)
    {f15 : Addr} {od15 an15 : Option Addr} {sl15 : Array (Option Value)} {oc15 kV15 dc15 pm15 cd15 ct15 : Value}
    (a15 : PySem.W.nsIn K mainGlobals "_law_none" = some (some (.ref f15))) (l15 : K.lookup f15 = some ⟨oc15, od15, .func (PySem.W.fnOf "_law_none" "_law_none" (defArgs s__law_none) (defBody s__law_none) (defScope s__law_none) .none kV15 dc15 pm15 an15 cd15 ct15), sl15⟩) (c15 : PySem.W.codeIn K cd15 "_law_none" = true) (k15 : PySem.W.keepIn K (.ref f15) = true)
    {f16 : Addr} {od16 an16 : Option Addr} {sl16 : Array (Option Value)} {oc16 kV16 dc16 pm16 cd16 ct16 : Value}
    (a16 : PySem.W.nsIn K mainGlobals "_law_bits" = some (some (.ref f16))) (l16 : K.lookup f16 = some ⟨oc16, od16, .func (PySem.W.fnOf "_law_bits" "_law_bits" (defArgs s__law_bits) (defBody s__law_bits) (defScope s__law_bits) .none kV16 dc16 pm16 an16 cd16 ct16), sl16⟩) (c16 : PySem.W.codeIn K cd16 "_law_bits" = true) (k16 : PySem.W.keepIn K (.ref f16) = true)
    {f17 : Addr} {od17 an17 : Option Addr} {sl17 : Array (Option Value)} {oc17 kV17 dc17 pm17 cd17 ct17 : Value}
    (a17 : PySem.W.nsIn K mainGlobals "_law_power" = some (some (.ref f17))) (l17 : K.lookup f17 = some ⟨oc17, od17, .func (PySem.W.fnOf "_law_power" "_law_power" (defArgs s__law_power) (defBody s__law_power) (defScope s__law_power) .none kV17 dc17 pm17 an17 cd17 ct17), sl17⟩) (c17 : PySem.W.codeIn K cd17 "_law_power" = true) (k17 : PySem.W.keepIn K (.ref f17) = true)
    {f18 : Addr} {od18 an18 : Option Addr} {sl18 : Array (Option Value)} {oc18 kV18 dc18 pm18 cd18 ct18 : Value}
    (a18 : PySem.W.nsIn K mainGlobals "law" = some (some (.ref f18))) (l18 : K.lookup f18 = some ⟨oc18, od18, .func (PySem.W.fnOf "law" "law" (defArgs s_law) (defBody s_law) (defScope s_law) .none kV18 dc18 pm18 an18 cd18 ct18), sl18⟩) (c18 : PySem.W.codeIn K cd18 "law" = true) (k18 : PySem.W.keepIn K (.ref f18) = true)
    (z_ValueError : PySem.W.nsIn K mainGlobals "ValueError" = some none)    (z_bool : PySem.W.nsIn K mainGlobals "bool" = some none)    (z_int : PySem.W.nsIn K mainGlobals "int" = some none)    (z_isinstance : PySem.W.nsIn K mainGlobals "isinstance" = some none)    (z_len : PySem.W.nsIn K mainGlobals "len" = some none)    (z_list : PySem.W.nsIn K mainGlobals "list" = some none)    (z_max : PySem.W.nsIn K mainGlobals "max" = some none)    (z_min : PySem.W.nsIn K mainGlobals "min" = some none)    (z_range : PySem.W.nsIn K mainGlobals "range" = some none)    (z_str : PySem.W.nsIn K mainGlobals "str" = some none)    (z_tuple : PySem.W.nsIn K mainGlobals "tuple" = some none)    {t_MOST : Tok} (m_MOST : PySem.W.nsIn K mainGlobals "MOST" = some (some (.int 1000000000000000000000000000000 t_MOST)))    {C_NoNumber : Addr} (eg_NoNumber : PySem.W.nsIn K mainGlobals "NoNumber" = some (some (.ref C_NoNumber))) (ek_NoNumber : PySem.W.keepIn K (.ref C_NoNumber) = true) (eq_NoNumber : PySem.W.excIn K C_NoNumber [.type "ValueError", .type "Exception", .type "BaseException", .type "object"] "ValueError.__new__" = true) (eb_NoNumber : PySem.W.subIn K (.ref C_NoNumber) (.type "BaseException") = some true) (et_NoNumber : PySem.W.typeIn K (.ref C_NoNumber) = some (.type "type"))
    {C_NoBases : Addr} (eg_NoBases : PySem.W.nsIn K mainGlobals "NoBases" = some (some (.ref C_NoBases)))
    {C_NoDeed : Addr} (eg_NoDeed : PySem.W.nsIn K mainGlobals "NoDeed" = some (some (.ref C_NoDeed)))
    {C_NoLine : Addr} (eg_NoLine : PySem.W.nsIn K mainGlobals "NoLine" = some (some (.ref C_NoLine)))
    {C_NoName : Addr} (eg_NoName : PySem.W.nsIn K mainGlobals "NoName" = some (some (.ref C_NoName)))
    {C_NoPair : Addr} (eg_NoPair : PySem.W.nsIn K mainGlobals "NoPair" = some (some (.ref C_NoPair)))
    {C_NoPaper : Addr} (eg_NoPaper : PySem.W.nsIn K mainGlobals "NoPaper" = some (some (.ref C_NoPaper)))
    {C_NoPrime : Addr} (eg_NoPrime : PySem.W.nsIn K mainGlobals "NoPrime" = some (some (.ref C_NoPrime)))
    {C_NoText : Addr} (eg_NoText : PySem.W.nsIn K mainGlobals "NoText" = some (some (.ref C_NoText)))
    {C_PrimeError : Addr} (eg_PrimeError : PySem.W.nsIn K mainGlobals "PrimeError" = some (some (.ref C_PrimeError)))
    {C_TooGreat : Addr} (eg_TooGreat : PySem.W.nsIn K mainGlobals "TooGreat" = some (some (.ref C_TooGreat)))
    (ec_NoNumber : ExcC K C_NoNumber) (em_NoNumber : PySem.W.exmOne K (.ref C_NoNumber) (.ref C_PrimeError) = some true) (ev_NoNumber : PySem.W.kitOne K (.ref C_NoNumber) (.type "ValueError") = some true) (ej_NoNumber_NoNumber : PySem.W.kitOne K (.ref C_NoNumber) (.ref C_NoNumber) = some true) (ej_NoNumber_NoPrime : PySem.W.kitOne K (.ref C_NoNumber) (.ref C_NoPrime) = some false) (ej_NoNumber_NoPair : PySem.W.kitOne K (.ref C_NoNumber) (.ref C_NoPair) = some false) (ej_NoNumber_NoPaper : PySem.W.kitOne K (.ref C_NoNumber) (.ref C_NoPaper) = some false) (ej_NoNumber_NoBases : PySem.W.kitOne K (.ref C_NoNumber) (.ref C_NoBases) = some false) (ej_NoNumber_NoText : PySem.W.kitOne K (.ref C_NoNumber) (.ref C_NoText) = some false) (ej_NoNumber_NoLine : PySem.W.kitOne K (.ref C_NoNumber) (.ref C_NoLine) = some false) (ej_NoNumber_NoName : PySem.W.kitOne K (.ref C_NoNumber) (.ref C_NoName) = some false) (ej_NoNumber_NoDeed : PySem.W.kitOne K (.ref C_NoNumber) (.ref C_NoDeed) = some false) (ej_NoNumber_TooGreat : PySem.W.kitOne K (.ref C_NoNumber) (.ref C_TooGreat) = some false)
    {cc_law pp_law : Addr} {oq_law : Value} {dq_law : Option Addr} {vq_law : Array Value} {sq_law : Array (Option Value)} (tc_law : cd18 = .ref cc_law) (ti_law : K.lookup cc_law = some ⟨oq_law, dq_law, .fields vq_law, sq_law⟩) (tv_law : (vq_law[11]? : Option Value) = some (.ref pp_law)) (th_law : PySem.W.codeHdIn K cc_law pp_law = true) (tn_law : K.lookup pp_law = none) (te_law : h.get? pp_law = some tabO)
 :
    ∃ (fd : FuncData) (cs : List (Addr × Addr)) (sp : Sp), (∀ p ∈ cs, h.get? p.2 = some tabO) ∧ (∀ p ∈ cs, K.lookup p.2 = none) ∧ (∀ p ∈ cs, PySem.W.CodeHd h p.1 p.2) ∧ (∀ (s : Shared) (v : Value), BindsTo s fd ⟨[v], []⟩ [("_law_script", v)]) ∧ (∀ (H : Hp) (a : Addr) (ns : List Int), ns.length ≤ 63 → (∀ p ∈ cs, H p.2 = some (.tbl #[])) → SqL K H a (ns.map V.int) → sp [.ref a] H (fun v _ => v = .bl true) fun _ _ _ => False) ∧ ∀ base : Heap, K.In base → base.Ns mainGlobals mg → (∀ p ∈ cs, TabB base mg p.1 p.2) → FnG l.prog w K mg base CX0 8 fa fd ["_law_script"] sp := by
  have e := hfa.symm.trans (PySem.W.mg_of X G a18)
  cases e
  have F0 := fun_mk (st := s_is_whole) l0 c0 k0
  have b0 := F0.binds (ps := ["thing"]) fun _ _ _ _ _ _ us hl => match us, hl with | [_], _ => rfl
  have F1 := fun_mk (st := s_is_between) l1 c1 k1
  have b1 := F1.binds (ps := ["thing", "low", "high"]) fun _ _ _ _ _ _ us hl => match us, hl with | [_, _, _], _ => rfl
  have F2 := fun_mk (st := s_need_between) l2 c2 k2
  have b2 := F2.binds (ps := ["thing", "low", "high"]) fun _ _ _ _ _ _ us hl => match us, hl with | [_, _, _], _ => rfl
  have F3 := fun_mk (st := s_need_number) l3 c3 k3
  have b3 := F3.binds (ps := ["n"]) fun _ _ _ _ _ _ us hl => match us, hl with | [_], _ => rfl
  have F4 := fun_mk (st := s_need_far) l4 c4 k4
  have b4 := F4.binds (ps := ["number"]) fun _ _ _ _ _ _ us hl => match us, hl with | [_], _ => rfl
  have F5 := fun_mk (st := s_power_of) l5 c5 k5
  have b5 := F5.binds (ps := ["base", "often", "n"]) fun _ _ _ _ _ _ us hl => match us, hl with | [_, _, _], _ => rfl
  have F6 := fun_mk (st := s_raised) l6 c6 k6
  have b6 := F6.binds (ps := ["base", "often", "n"]) fun _ _ _ _ _ _ us hl => match us, hl with | [_, _, _], _ => rfl
  have F7 := fun_mk (st := s__law_cell_at) l7 c7 k7
  have b7 := F7.binds (ps := ["_law_script", "_law_k"]) fun _ _ _ _ _ _ us hl => match us, hl with | [_, _], _ => rfl
  have F8 := fun_mk (st := s__law_state) l8 c8 k8
  have b8 := F8.binds (ps := ["_law_script", "_law_k"]) fun _ _ _ _ _ _ us hl => match us, hl with | [_, _], _ => rfl
  have F9 := fun_mk (st := s__law_take) l9 c9 k9
  have b9 := F9.binds (ps := ["_law_state_here", "_law_many"]) fun _ _ _ _ _ _ us hl => match us, hl with | [_, _], _ => rfl
  have F10 := fun_mk (st := s__law_same) l10 c10 k10
  have b10 := F10.binds (ps := ["_law_found", "_law_due"]) fun _ _ _ _ _ _ us hl => match us, hl with | [_, _], _ => rfl
  have F11 := fun_mk (st := s__law_word) l11 c11 k11
  have b11 := F11.binds (ps := ["_law_call"]) fun _ _ _ _ _ _ us hl => match us, hl with | [_], _ => rfl
  have F12 := fun_mk (st := s__law_far) l12 c12 k12
  have b12 := F12.binds (ps := ["_law_state_here", "_law_many"]) fun _ _ _ _ _ _ us hl => match us, hl with | [_, _], _ => rfl
  have F13 := fun_mk (st := s__law_number) l13 c13 k13
  have b13 := F13.binds (ps := ["_law_state_here"]) fun _ _ _ _ _ _ us hl => match us, hl with | [_], _ => rfl
  have F14 := fun_mk (st := s__law_far_number) l14 c14 k14
  have b14 := F14.binds (ps := ["_law_state_here"]) fun _ _ _ _ _ _ us hl => match us, hl with | [_], _ => rfl
  have F15 := fun_mk (st := s__law_none) l15 c15 k15
  have b15 := F15.binds (ps := ["_law_state_here", "_law_low", "_law_high"]) fun _ _ _ _ _ _ us hl => match us, hl with | [_, _, _], _ => rfl
  have F16 := fun_mk (st := s__law_bits) l16 c16 k16
  have b16 := F16.binds (ps := ["_law_often"]) fun _ _ _ _ _ _ us hl => match us, hl with | [_], _ => rfl
  have F17 := fun_mk (st := s__law_power) l17 c17 k17
  have b17 := F17.binds (ps := ["_law_base", "_law_often", "_law_n"]) fun _ _ _ _ _ _ us hl => match us, hl with | [_, _, _], _ => rfl
  have F18 := fun_mk (st := s_law) l18 c18 k18
  obtain ⟨er, her⟩ : ∃ er : String → Addr, er = (fun x => if x = "TooGreat" then C_TooGreat else (fun x => if x = "PrimeError" then C_PrimeError else (fun x => if x = "NoText" then C_NoText else (fun x => if x = "NoPrime" then C_NoPrime else (fun x => if x = "NoPaper" then C_NoPaper else (fun x => if x = "NoPair" then C_NoPair else (fun x => if x = "NoName" then C_NoName else (fun x => if x = "NoLine" then C_NoLine else (fun x => if x = "NoDeed" then C_NoDeed else (fun x => if x = "NoBases" then C_NoBases else (fun x => if x = "NoNumber" then C_NoNumber else (fun _ => 0) x) x) x) x) x) x) x) x) x) x) x) := ⟨_, rfl⟩
  have q_NoNumber : er "NoNumber" = C_NoNumber := by rw [her]; simp
  have x_NoNumber : EC K mg "NoNumber" (er "NoNumber") := by rw [q_NoNumber]; exact ⟨PySem.W.mg_of X G eg_NoNumber, ek_NoNumber, eq_NoNumber, eb_NoNumber, et_NoNumber⟩
  have q_NoBases : er "NoBases" = C_NoBases := by rw [her]; simp
  have q_NoDeed : er "NoDeed" = C_NoDeed := by rw [her]; simp
  have q_NoLine : er "NoLine" = C_NoLine := by rw [her]; simp
  have q_NoName : er "NoName" = C_NoName := by rw [her]; simp
  have q_NoPair : er "NoPair" = C_NoPair := by rw [her]; simp
  have q_NoPaper : er "NoPaper" = C_NoPaper := by rw [her]; simp
  have q_NoPrime : er "NoPrime" = C_NoPrime := by rw [her]; simp
  have q_NoText : er "NoText" = C_NoText := by rw [her]; simp
  have q_PrimeError : er "PrimeError" = C_PrimeError := by rw [her]; simp
  have q_TooGreat : er "TooGreat" = C_TooGreat := by rw [her]; simp
  have v_NoNumber : mg "NoNumber" = some (.ref (er "NoNumber")) := by rw [q_NoNumber]; exact PySem.W.mg_of X G eg_NoNumber
  have v_NoBases : mg "NoBases" = some (.ref (er "NoBases")) := by rw [q_NoBases]; exact PySem.W.mg_of X G eg_NoBases
  have v_NoDeed : mg "NoDeed" = some (.ref (er "NoDeed")) := by rw [q_NoDeed]; exact PySem.W.mg_of X G eg_NoDeed
  have v_NoLine : mg "NoLine" = some (.ref (er "NoLine")) := by rw [q_NoLine]; exact PySem.W.mg_of X G eg_NoLine
  have v_NoName : mg "NoName" = some (.ref (er "NoName")) := by rw [q_NoName]; exact PySem.W.mg_of X G eg_NoName
  have v_NoPair : mg "NoPair" = some (.ref (er "NoPair")) := by rw [q_NoPair]; exact PySem.W.mg_of X G eg_NoPair
  have v_NoPaper : mg "NoPaper" = some (.ref (er "NoPaper")) := by rw [q_NoPaper]; exact PySem.W.mg_of X G eg_NoPaper
  have v_NoPrime : mg "NoPrime" = some (.ref (er "NoPrime")) := by rw [q_NoPrime]; exact PySem.W.mg_of X G eg_NoPrime
  have v_NoText : mg "NoText" = some (.ref (er "NoText")) := by rw [q_NoText]; exact PySem.W.mg_of X G eg_NoText
  have v_PrimeError : mg "PrimeError" = some (.ref (er "PrimeError")) := by rw [q_PrimeError]; exact PySem.W.mg_of X G eg_PrimeError
  have v_TooGreat : mg "TooGreat" = some (.ref (er "TooGreat")) := by rw [q_TooGreat]; exact PySem.W.mg_of X G eg_TooGreat
  have y_ValueError := PySem.W.mg_none_of X G z_ValueError
  have y_bool := PySem.W.mg_none_of X G z_bool
  have y_int := PySem.W.mg_none_of X G z_int
  have y_isinstance := PySem.W.mg_none_of X G z_isinstance
  have y_len := PySem.W.mg_none_of X G z_len
  have y_list := PySem.W.mg_none_of X G z_list
  have y_max := PySem.W.mg_none_of X G z_max
  have y_min := PySem.W.mg_none_of X G z_min
  have y_range := PySem.W.mg_none_of X G z_range
  have y_str := PySem.W.mg_none_of X G z_str
  have y_tuple := PySem.W.mg_none_of X G z_tuple
  have n_MOST := PySem.W.mg_of X G m_MOST
  have w_NoNumber : Kits K er 0 "NoNumber" := by
    refine ⟨rfl, by rw [q_NoNumber]; exact ec_NoNumber, fun j n hj => ?_, by rw [q_NoNumber]; exact ev_NoNumber, by rw [q_NoNumber, q_PrimeError]; exact em_NoNumber⟩
    have hjl := (List.getElem?_eq_some_iff.mp hj).1
    have hj10 : j < 10 := hjl
    have hj2 : j = 0 ∨ j = 1 ∨ j = 2 ∨ j = 3 ∨ j = 4 ∨ j = 5 ∨ j = 6 ∨ j = 7 ∨ j = 8 ∨ j = 9 := by omega
    rcases hj2 with rfl | rfl | rfl | rfl | rfl | rfl | rfl | rfl | rfl | rfl
    · cases hj; rw [q_NoNumber]; exact ej_NoNumber_NoNumber
    · cases hj; rw [q_NoNumber, q_NoPrime]; exact ej_NoNumber_NoPrime
    · cases hj; rw [q_NoNumber, q_NoPair]; exact ej_NoNumber_NoPair
    · cases hj; rw [q_NoNumber, q_NoPaper]; exact ej_NoNumber_NoPaper
    · cases hj; rw [q_NoNumber, q_NoBases]; exact ej_NoNumber_NoBases
    · cases hj; rw [q_NoNumber, q_NoText]; exact ej_NoNumber_NoText
    · cases hj; rw [q_NoNumber, q_NoLine]; exact ej_NoNumber_NoLine
    · cases hj; rw [q_NoNumber, q_NoName]; exact ej_NoNumber_NoName
    · cases hj; rw [q_NoNumber, q_NoDeed]; exact ej_NoNumber_NoDeed
    · cases hj; rw [q_NoNumber, q_TooGreat]; exact ej_NoNumber_TooGreat
  obtain ⟨Tt, hTt⟩ : ∃ Tt : List (Addr × Str), Tt = [(pp_law, lq "law")] := ⟨_, rfl⟩
  have hm_law : (pp_law, lq "law") ∈ Tt := by rw [hTt]; simp
  have hu_law : ∀ p ∈ Tt, p.1 = pp_law → p.2 = lq "law" := by
    rw [hTt]
    intro p hp hq
    simp only [List.mem_cons, List.not_mem_nil, or_false] at hp
    rcases hp with rfl
    · rfl
  refine ⟨PySem.W.fnOf "law" "law" (defArgs s_law) (defBody s_law) (defScope s_law) .none kV18 dc18 pm18 an18 cd18 ct18, [(cc_law, pp_law)], spLawT K Tt, (by
      intro p hp
      simp only [List.mem_cons, List.not_mem_nil, or_false] at hp
      rcases hp with rfl
      · exact te_law), (by
      intro p hp
      simp only [List.mem_cons, List.not_mem_nil, or_false] at hp
      rcases hp with rfl
      · exact tn_law), (by
      intro p hp
      simp only [List.mem_cons, List.not_mem_nil, or_false] at hp
      rcases hp with rfl
      · exact PySem.W.codeHd_of_K X th_law), fun s v => .of_eq rfl, fun H a ns hl hT hS => ⟨a, ns, rfl, hS, hl, ?_, fun _ => rfl⟩, fun base hbk hbn hTB => ?_⟩
  · rw [hTt]
    intro p hp
    simp only [List.mem_cons, List.not_mem_nil, or_false] at hp
    rcases hp with rfl
    · exact TabS.nil (hT (cc_law, pp_law) (by simp))
  have tb_law : TabD base mg (PySem.W.fnOf "law" "law" (defArgs s_law) (defBody s_law) (defScope s_law) .none kV18 dc18 pm18 an18 cd18 ct18) cc_law pp_law := ⟨tc_law, hTB (cc_law, pp_law) (by simp)⟩
  have g0 := Cl.mk' F0 (PySem.W.mg_of X G a0) b0 (ok_is_whole (P := l.prog) (w := w) (base := base) F0 y_bool y_int y_isinstance)
  have g1 := Cl.mk' F1 (PySem.W.mg_of X G a1) b1 (ok_is_between (P := l.prog) (w := w) (base := base) F1 g0)
  have g2 := Cl.mk' F2 (PySem.W.mg_of X G a2) b2 (ok_need_between (P := l.prog) (w := w) (base := base) F2 g1 x_NoNumber)
  have g3 := Cl.mk' F3 (PySem.W.mg_of X G a3) b3 (ok_need_number (P := l.prog) (w := w) (base := base) F3 g2 n_MOST)
  have g4 := Cl.mk' F4 (PySem.W.mg_of X G a4) b4 (ok_need_far (P := l.prog) (w := w) (base := base) F4 g2 n_MOST)
  have g5 := Cl.mk' F5 (PySem.W.mg_of X G a5) b5 (ok_power_of (P := l.prog) (w := w) (base := base) F5 )
  have g6 := Cl.mk' F6 (PySem.W.mg_of X G a6) b6 (ok_raised (P := l.prog) (w := w) (base := base) F6 g2 g3 g4 g5 n_MOST)
  have g7 := Cl.mk' F7 (PySem.W.mg_of X G a7) b7 (ok__law_cell_at (P := l.prog) (w := w) (base := base) F7 y_len)
  have g8 := Cl.mk' F8 (PySem.W.mg_of X G a8) b8 (ok__law_state (P := l.prog) (w := w) (base := base) F8 g7)
  have g9 := Cl.mk' F9 (PySem.W.mg_of X G a9) b9 (ok__law_take (P := l.prog) (w := w) (base := base) F9 )
  have g10 := Cl.mk' F10 (PySem.W.mg_of X G a10) b10 (ok__law_same (P := l.prog) (w := w) (base := base) F10 y_bool y_isinstance y_len y_list y_tuple)
  have g11 := ClG.mk' F11 (PySem.W.mg_of X G a11) b11 sc__law_word rfl (Or.inl rfl) rfl rfl (gv__law_word (P := l.prog) (w := w) (base := base) (f := f11) y_ValueError y_isinstance v_NoBases v_NoDeed v_NoLine v_NoName v_NoNumber v_NoPair v_NoPaper v_NoPrime v_NoText v_PrimeError v_TooGreat)
  have g12 := Cl.mk' F12 (PySem.W.mg_of X G a12) b12 (ok__law_far (P := l.prog) (w := w) (base := base) F12 g9 y_range)
  have g13 := Cl.mk' F13 (PySem.W.mg_of X G a13) b13 (ok__law_number (P := l.prog) (w := w) (base := base) F13 g9 g12)
  have g14 := Cl.mk' F14 (PySem.W.mg_of X G a14) b14 (ok__law_far_number (P := l.prog) (w := w) (base := base) F14 g9 g13)
  have g15 := Cl.mk' F15 (PySem.W.mg_of X G a15) b15 (ok__law_none (P := l.prog) (w := w) (base := base) F15 g9 y_str)
  have g16 := Cl.mk' F16 (PySem.W.mg_of X G a16) b16 (ok__law_bits (P := l.prog) (w := w) (base := base) F16 )
  have g17 := Cl.mk' F17 (PySem.W.mg_of X G a17) b17 (ok__law_power (P := l.prog) (w := w) (base := base) F17 g16)
  exact ok_law F18 tb_law hm_law hu_law g6 g8 g9 g10 g11 g12 g13 g14 g15 g17 y_len y_max y_min y_range w_NoNumber
end My
open PySem PySem.W PyProof.Rows
set_option maxRecDepth 100000 in
set_option maxHeartbeats 0 in
theorem PySem.Challenge.cw_primepapers_k01_powers_of_rests_holds : PySem.Challenge.rw_primepapers_k01_powers_of_rests.Holds := by
  w_on; o_law; k_head; (case hw => w_witness2)
  k_fill
  refine My.walk_ofGT (l := PySem.Challenge.rw_primepapers_k01_powers_of_rests) (n := 63) (k := 8) (x := "_law_script") rfl (by decide) rfl ⟨rfl, by decide, by decide⟩ (fun w h Y => PySem.W.km_in_of Y) ?F
  case F =>
    intro w mg fa h Y KX G hmg
    refine' My.all_mk KX G hmg ?a0 ?l0 ?c0 ?k0 ?a1 ?l1 ?c1 ?k1 ?a2 ?l2 ?c2 ?k2 ?a3 ?l3 ?c3 ?k3 ?a4 ?l4 ?c4 ?k4 ?a5 ?l5 ?c5 ?k5 ?a6 ?l6 ?c6 ?k6 ?a7 ?l7 ?c7 ?k7 ?a8 ?l8 ?c8 ?k8 ?a9 ?l9 ?c9 ?k9 ?a10 ?l10 ?c10 ?k10 ?a11 ?l11 ?c11 ?k11 ?a12 ?l12 ?c12 ?k12 ?a13 ?l13 ?c13 ?k13 ?a14 ?l14 ?c14 ?k14 ?a15 ?l15 ?c15 ?k15 ?a16 ?l16 ?c16 ?k16 ?a17 ?l17 ?c17 ?k17 ?a18 ?l18 ?c18 ?k18 ?z_ValueError ?z_bool ?z_int ?z_isinstance ?z_len ?z_list ?z_max ?z_min ?z_range ?z_str ?z_tuple ?m_MOST ?eg_NoNumber ?ek_NoNumber ?eq_NoNumber ?eb_NoNumber ?et_NoNumber ?eg_NoBases ?eg_NoDeed ?eg_NoLine ?eg_NoName ?eg_NoPair ?eg_NoPaper ?eg_NoPrime ?eg_NoText ?eg_PrimeError ?eg_TooGreat ?ec_NoNumber ?em_NoNumber ?ev_NoNumber ?ej_NoNumber_NoNumber ?ej_NoNumber_NoPrime ?ej_NoNumber_NoPair ?ej_NoNumber_NoPaper ?ej_NoNumber_NoBases ?ej_NoNumber_NoText ?ej_NoNumber_NoLine ?ej_NoNumber_NoName ?ej_NoNumber_NoDeed ?ej_NoNumber_TooGreat ?tc_law ?ti_law ?tv_law ?th_law ?tn_law ?te_law
    (case a0 => k_is)
    (case l0 => k_is)
    (case c0 => k_is)
    (case k0 => k_is)
    (case a1 => k_is)
    (case l1 => k_is)
    (case c1 => k_is)
    (case k1 => k_is)
    (case a2 => k_is)
    (case l2 => k_is)
    (case c2 => k_is)
    (case k2 => k_is)
    (case a3 => k_is)
    (case l3 => k_is)
    (case c3 => k_is)
    (case k3 => k_is)
    (case a4 => k_is)
    (case l4 => k_is)
    (case c4 => k_is)
    (case k4 => k_is)
    (case a5 => k_is)
    (case l5 => k_is)
    (case c5 => k_is)
    (case k5 => k_is)
    (case a6 => k_is)
    (case l6 => k_is)
    (case c6 => k_is)
    (case k6 => k_is)
    (case a7 => k_is)
    (case l7 => k_is)
    (case c7 => k_is)
    (case k7 => k_is)
    (case a8 => k_is)
    (case l8 => k_is)
    (case c8 => k_is)
    (case k8 => k_is)
    (case a9 => k_is)
    (case l9 => k_is)
    (case c9 => k_is)
    (case k9 => k_is)
    (case a10 => k_is)
    (case l10 => k_is)
    (case c10 => k_is)
    (case k10 => k_is)
    (case a11 => k_is)
    (case l11 => k_is)
    (case c11 => k_is)
    (case k11 => k_is)
    (case a12 => k_is)
    (case l12 => k_is)
    (case c12 => k_is)
    (case k12 => k_is)
    (case a13 => k_is)
    (case l13 => k_is)
    (case c13 => k_is)
    (case k13 => k_is)
    (case a14 => k_is)
    (case l14 => k_is)
    (case c14 => k_is)
    (case k14 => k_is)
    (case a15 => k_is)
    (case l15 => k_is)
    (case c15 => k_is)
    (case k15 => k_is)
    (case a16 => k_is)
    (case l16 => k_is)
    (case c16 => k_is)
    (case k16 => k_is)
    (case a17 => k_is)
    (case l17 => k_is)
    (case c17 => k_is)
    (case k17 => k_is)
    (case a18 => k_is)
    (case l18 => k_is)
    (case c18 => k_is)
    (case k18 => k_is)
    (case z_ValueError => k_is)
    (case z_bool => k_is)
    (case z_int => k_is)
    (case z_isinstance => k_is)
    (case z_len => k_is)
    (case z_list => k_is)
    (case z_max => k_is)
    (case z_min => k_is)
    (case z_range => k_is)
    (case z_str => k_is)
    (case z_tuple => k_is)
    (case m_MOST => k_is)
    (case eg_NoNumber => k_is)
    (case ek_NoNumber => k_is)
    (case eq_NoNumber => k_exc)
    (case eb_NoNumber => k_is)
    (case et_NoNumber => k_is)
    (case eg_NoBases => k_is)
    (case eg_NoDeed => k_is)
    (case eg_NoLine => k_is)
    (case eg_NoName => k_is)
    (case eg_NoPair => k_is)
    (case eg_NoPaper => k_is)
    (case eg_NoPrime => k_is)
    (case eg_NoText => k_is)
    (case eg_PrimeError => k_is)
    (case eg_TooGreat => k_is)
    (case ec_NoNumber => refine ⟨?_, ?_, ?_, ?_, ?_, ?_, ?_, ?_⟩ <;> k_is)
    (case em_NoNumber => kernel_rfl)
    (case ev_NoNumber => kernel_rfl)
    (case ej_NoNumber_NoNumber => kernel_rfl)
    (case ej_NoNumber_NoPrime => kernel_rfl)
    (case ej_NoNumber_NoPair => kernel_rfl)
    (case ej_NoNumber_NoPaper => kernel_rfl)
    (case ej_NoNumber_NoBases => kernel_rfl)
    (case ej_NoNumber_NoText => kernel_rfl)
    (case ej_NoNumber_NoLine => kernel_rfl)
    (case ej_NoNumber_NoName => kernel_rfl)
    (case ej_NoNumber_NoDeed => kernel_rfl)
    (case ej_NoNumber_TooGreat => kernel_rfl)
    (case tc_law => rfl)
    (case ti_law => k_is)
    (case tv_law => rfl)
    (case th_law => kernel_rfl)
    (case tn_law => kernel_rfl)
    (case te_law => exact PySem.W.km_tabs_of Y _ (by k_mem))
