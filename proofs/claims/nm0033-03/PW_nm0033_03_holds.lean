import PyProof.Rows.All
import Wide.All
import OpenK.AllK
import Wide.FinOn
import KE.KLam
import KE.KRevSl
import PySem.Challenge.RW_nm0033_03
open PySem PySem.W PySem.Calls PyProof.Rows
set_option Elab.async false
set_option linter.unusedVariables false
set_option linter.unusedSimpArgs false
set_option maxRecDepth 100000
set_option linter.all false
set_option compiler.extract_closed false
namespace Mine
theorem DW {p:α→Prop} {b:Prop} (h:∃x,p x) (f:∀x,p x→b):b:=Exists.elim h f
theorem DX {p q b:Prop} (h:p∧q) (f:p→q→b):b:=f h.1 h.2
section
variable {b:Prop} {A:Sort u1} {B:Sort u2} {C:Sort u3} {D:Sort u4} {E:Sort u5} {F:Sort u6} {G:Sort u7} {H:Sort u8} {I:Sort u9} {J:Sort u10} {K:Sort u11} {L:Sort u12} {M:Sort u13} {p0 q0 r0 s0 t0 u0 v0 w0 i0:Prop} {p1 q1 r1 s1 t1 u1:A→Prop} {p2 q2 r2 s2 t2 u2 v2:A→B→Prop} {p3 q3 r3 s3 t3 u3 v3 w3:A→B→C→Prop} {p4 q4 r4 s4 t4 u4 v4:A→B→C→D→Prop} {p5 q5 r5 s5 t5 u5 v5 w5 i5 j5:A→B→C→D→E→Prop} {p6 q6 r6 s6:A→B→C→D→E→F→Prop} {p7 q7 r7:A→B→C→D→E→F→G→Prop} {p8 q8:A→B→C→D→E→F→G→H→Prop} {p9 q9 r9:A→B→C→D→E→F→G→H→I→Prop} {p12:A→B→C→D→E→F→G→H→I→J→K→L→Prop} {p13 q13:A→B→C→D→E→F→G→H→I→J→K→L→M→Prop}
theorem bD (h:p0∧q0) (f:p0→q0→b):b:=f h.1 h.2
theorem b8 (h:∃x,p1 x) (f:∀x,p1 x→b):b:=h.elim fun x0 h0=>f x0 h0
theorem dA (h:p0∧q0∧r0) (f:p0→q0→r0→b):b:=bD h.2 (f h.1)
theorem hZ (h:p0∧∃x,p1 x) (f:p0→∀x,p1 x→b):b:=b8 h.2 (f h.1)
theorem aF (h:∃x,p1 x∧q1 x) (f:∀x,p1 x→q1 x→b):b:=h.elim fun x0 h0=>bD h0 (f x0)
theorem bC (h:∃x y,p2 x y) (f:∀x y,p2 x y→b):b:=h.elim fun x0 h0=>b8 h0 (f x0)
theorem fY (h:p0∧q0∧r0∧s0) (f:p0→q0→r0→s0→b):b:=dA h.2 (f h.1)
theorem o9 (h:p0∧∃x,p1 x∧q1 x) (f:p0→∀x,p1 x→q1 x→b):b:=aF h.2 (f h.1)
theorem fX (h:∃x,p1 x∧q1 x∧r1 x) (f:∀x,p1 x→q1 x→r1 x→b):b:=h.elim fun x0 h0=>dA h0 (f x0)
theorem ci (h:∃x y,p2 x y∧q2 x y) (f:∀x y,p2 x y→q2 x y→b):b:=h.elim fun x0 h0=>aF h0 (f x0)
theorem o6 (h:∃x y z,p3 x y z) (f:∀x y z,p3 x y z→b):b:=h.elim fun x0 h0=>bC h0 (f x0)
theorem gq (h:p0∧q0∧r0∧s0∧t0) (f:p0→q0→r0→s0→t0→b):b:=fY h.2 (f h.1)
theorem qi (h:p0∧∃x,p1 x∧q1 x∧r1 x) (f:p0→∀x,p1 x→q1 x→r1 x→b):b:=fX h.2 (f h.1)
theorem fc (h:∃x,p1 x∧q1 x∧r1 x∧s1 x) (f:∀x,p1 x→q1 x→r1 x→s1 x→b):b:=h.elim fun x0 h0=>fY h0 (f x0)
theorem zg (h:∃x,p1 x∧q1 x∧∃y,p2 x y) (f:∀x,p1 x→q1 x→∀y,p2 x y→b):b:=h.elim fun x0 h0=>hZ h0.2 (f x0 h0.1)
theorem cy (h:∃x y,p2 x y∧q2 x y∧r2 x y) (f:∀x y,p2 x y→q2 x y→r2 x y→b):b:=h.elim fun x0 h0=>fX h0 (f x0)
theorem cM (h:∃x y z,p3 x y z∧q3 x y z) (f:∀x y z,p3 x y z→q3 x y z→b):b:=h.elim fun x0 h0=>ci h0 (f x0)
theorem gm (h:p0∧q0∧r0∧s0∧t0∧u0) (f:p0→q0→r0→s0→t0→u0→b):b:=gq h.2 (f h.1)
theorem nN (h:p0∧∃x,p1 x∧q1 x∧r1 x∧s1 x) (f:p0→∀x,p1 x→q1 x→r1 x→s1 x→b):b:=fc h.2 (f h.1)
theorem jo (h:p0∧∃x y,p2 x y∧q2 x y∧r2 x y) (f:p0→∀x y,p2 x y→q2 x y→r2 x y→b):b:=cy h.2 (f h.1)
theorem nM (h:p0∧∃x y z,p3 x y z∧q3 x y z) (f:p0→∀x y z,p3 x y z→q3 x y z→b):b:=cM h.2 (f h.1)
theorem bW (h:∃x,p1 x∧q1 x∧r1 x∧s1 x∧t1 x) (f:∀x,p1 x→q1 x→r1 x→s1 x→t1 x→b):b:=h.elim fun x0 h0=>gq h0 (f x0)
theorem kn (h:∃x y,p2 x y∧q2 x y∧r2 x y∧s2 x y) (f:∀x y,p2 x y→q2 x y→r2 x y→s2 x y→b):b:=h.elim fun x0 h0=>fc h0 (f x0)
theorem jn (h:∃x y,p2 x y∧∃z,p3 x y z∧q3 x y z) (f:∀x y,p2 x y→∀z,p3 x y z→q3 x y z→b):b:=h.elim fun x0 h0=>h0.elim fun x1 h1=>o9 h1 (f x0 x1)
theorem cQ (h:∃x y z,p3 x y z∧q3 x y z∧r3 x y z) (f:∀x y z,p3 x y z→q3 x y z→r3 x y z→b):b:=h.elim fun x0 h0=>cy h0 (f x0)
theorem jp (h:p0∧q0∧∃x,p1 x∧q1 x∧r1 x) (f:p0→q0→∀x,p1 x→q1 x→r1 x→b):b:=qi h.2 (f h.1)
theorem hS (h:p0∧∃x y,p2 x y∧q2 x y∧r2 x y∧s2 x y) (f:p0→∀x y,p2 x y→q2 x y→r2 x y→s2 x y→b):b:=kn h.2 (f h.1)
theorem fa (h:∃x,p1 x∧q1 x∧r1 x∧s1 x∧t1 x∧u1 x) (f:∀x,p1 x→q1 x→r1 x→s1 x→t1 x→u1 x→b):b:=h.elim fun x0 h0=>gm h0 (f x0)
theorem k8 (h:∃x,p1 x∧∃y z w,p4 x y z w∧q4 x y z w) (f:∀x,p1 x→∀y z w,p4 x y z w→q4 x y z w→b):b:=h.elim fun x0 h0=>nM h0 (f x0)
theorem dL (h:∃x y,p2 x y∧q2 x y∧r2 x y∧s2 x y∧t2 x y) (f:∀x y,p2 x y→q2 x y→r2 x y→s2 x y→t2 x y→b):b:=h.elim fun x0 h0=>bW h0 (f x0)
theorem dK (h:∃x y,p2 x y∧∃z w,p4 x y z w∧q4 x y z w) (f:∀x y,p2 x y→∀z w,p4 x y z w→q4 x y z w→b):b:=h.elim fun x0 h0=>h0.elim fun x1 h1=>ci h1.2 (f x0 x1 h1.1)
theorem jm (h:∃x y z w,p4 x y z w∧q4 x y z w∧r4 x y z w) (f:∀x y z w,p4 x y z w→q4 x y z w→r4 x y z w→b):b:=h.elim fun x0 h0=>cQ h0 (f x0)
theorem df (h:p0∧∃x y,p2 x y∧q2 x y∧r2 x y∧s2 x y∧t2 x y) (f:p0→∀x y,p2 x y→q2 x y→r2 x y→s2 x y→t2 x y→b):b:=dL h.2 (f h.1)
theorem mR (h:∃x y,p2 x y∧q2 x y∧r2 x y∧s2 x y∧t2 x y∧u2 x y) (f:∀x y,p2 x y→q2 x y→r2 x y→s2 x y→t2 x y→u2 x y→b):b:=h.elim fun x0 h0=>fa h0 (f x0)
theorem mQ (h:∃x y,p2 x y∧∃z,p3 x y z∧q3 x y z∧r3 x y z∧s3 x y z) (f:∀x y,p2 x y→∀z,p3 x y z→q3 x y z→r3 x y z→s3 x y z→b):b:=h.elim fun x0 h0=>h0.elim fun x1 h1=>nN h1 (f x0 x1)
theorem mP (h:∃x y,p2 x y∧∃z w,p4 x y z w∧q4 x y z w∧r4 x y z w) (f:∀x y,p2 x y→∀z w,p4 x y z w→q4 x y z w→r4 x y z w→b):b:=h.elim fun x0 h0=>h0.elim fun x1 h1=>jo h1 (f x0 x1)
theorem jK (h:∃x y z,p3 x y z∧q3 x y z∧r3 x y z∧s3 x y z∧t3 x y z) (f:∀x y z,p3 x y z→q3 x y z→r3 x y z→s3 x y z→t3 x y z→b):b:=h.elim fun x0 h0=>dL h0 (f x0)
theorem jJ (h:∃x y z w,p4 x y z w∧q4 x y z w∧r4 x y z w∧s4 x y z w) (f:∀x y z w,p4 x y z w→q4 x y z w→r4 x y z w→s4 x y z w→b):b:=h.elim fun x0 h0=>h0.elim fun x1 h1=>kn h1 (f x0 x1)
theorem qh (h:∃x,p1 x∧q1 x∧∃y,p2 x y∧q2 x y∧r2 x y∧s2 x y∧t2 x y) (f:∀x,p1 x→q1 x→∀y,p2 x y→q2 x y→r2 x y→s2 x y→t2 x y→b):b:=h.elim fun x0 h0=>bW h0.2.2 (f x0 h0.1 h0.2.1)
theorem gk (h:∃x y,p2 x y∧q2 x y∧r2 x y∧s2 x y∧t2 x y∧u2 x y∧v2 x y) (f:∀x y,p2 x y→q2 x y→r2 x y→s2 x y→t2 x y→u2 x y→v2 x y→b):b:=h.elim fun x0 h0=>h0.elim fun x1 h1=>gm h1.2 (f x0 x1 h1.1)
theorem qg (h:∃x y,p2 x y∧∃z w,p4 x y z w∧∃x5,p5 x y z w x5∧q5 x y z w x5) (f:∀x y,p2 x y→∀z w,p4 x y z w→∀x5,p5 x y z w x5→q5 x y z w x5→b):b:=h.elim fun x0 h0=>h0.elim fun x1 h1=>jn h1.2 (f x0 x1 h1.1)
theorem kZ (h:∃x y,p2 x y∧∃z w x5,p5 x y z w x5∧q5 x y z w x5∧r5 x y z w x5) (f:∀x y,p2 x y→∀z w x5,p5 x y z w x5→q5 x y z w x5→r5 x y z w x5→b):b:=h.elim fun x0 h0=>h0.elim fun x1 h1=>cQ h1.2 (f x0 x1 h1.1)
theorem qf (h:∃x y z,p3 x y z∧q3 x y z∧r3 x y z∧s3 x y z∧t3 x y z∧u3 x y z) (f:∀x y z,p3 x y z→q3 x y z→r3 x y z→s3 x y z→t3 x y z→u3 x y z→b):b:=h.elim fun x0 h0=>mR h0 (f x0)
theorem iV (h:p0∧q0∧r0∧s0∧t0∧u0∧v0∧w0∧i0) (f:p0→q0→r0→s0→t0→u0→v0→w0→i0→b):b:=gm h.2.2.2 (f h.1 h.2.1 h.2.2.1)
theorem o8 (h:∃x,p1 x∧q1 x∧∃y,p2 x y∧q2 x y∧r2 x y∧s2 x y∧t2 x y∧u2 x y) (f:∀x,p1 x→q1 x→∀y,p2 x y→q2 x y→r2 x y→s2 x y→t2 x y→u2 x y→b):b:=h.elim fun x0 h0=>fa h0.2.2 (f x0 h0.1 h0.2.1)
theorem fE (h:∃x y,p2 x y∧∃z w,p4 x y z w∧∃x5 x6,p6 x y z w x5 x6∧q6 x y z w x5 x6) (f:∀x y,p2 x y→∀z w,p4 x y z w→∀x5 x6,p6 x y z w x5 x6→q6 x y z w x5 x6→b):b:=h.elim fun x0 h0=>h0.elim fun x1 h1=>dK h1.2 (f x0 x1 h1.1)
theorem cP (h:∃x y z,p3 x y z∧q3 x y z∧r3 x y z∧s3 x y z∧t3 x y z∧u3 x y z∧v3 x y z) (f:∀x y z,p3 x y z→q3 x y z→r3 x y z→s3 x y z→t3 x y z→u3 x y z→v3 x y z→b):b:=h.elim fun x0 h0=>gk h0 (f x0)
theorem o0 (h:∃x y z w x5,p5 x y z w x5∧q5 x y z w x5∧r5 x y z w x5∧s5 x y z w x5∧t5 x y z w x5) (f:∀x y z w x5,p5 x y z w x5→q5 x y z w x5→r5 x y z w x5→s5 x y z w x5→t5 x y z w x5→b):b:=h.elim fun x0 h0=>h0.elim fun x1 h1=>jK h1 (f x0 x1)
theorem nL (h:∃x y,p2 x y∧∃z,p3 x y z∧∃w x5,p5 x y z w x5∧∃x6,p6 x y z w x5 x6∧q6 x y z w x5 x6) (f:∀x y,p2 x y→∀z,p3 x y z→∀w x5,p5 x y z w x5→∀x6,p6 x y z w x5 x6→q6 x y z w x5 x6→b):b:=h.elim fun x0 h0=>h0.elim fun x1 h1=>h1.2.elim fun x3 h3=>jn h3.2 (f x0 x1 h1.1 x3 h3.1)
theorem gj (h:∃x y,p2 x y∧∃z w,p4 x y z w∧q4 x y z w∧∃x5 x6,p6 x y z w x5 x6∧q6 x y z w x5 x6) (f:∀x y,p2 x y→∀z w,p4 x y z w→q4 x y z w→∀x5 x6,p6 x y z w x5 x6→q6 x y z w x5 x6→b):b:=h.elim fun x0 h0=>h0.elim fun x1 h1=>h1.2.elim fun x3 h3=>h3.elim fun x4 h4=>ci h4.2.2 (f x0 x1 h1.1 x3 x4 h4.1 h4.2.1)
theorem nK (h:∃x y,p2 x y∧∃z w,p4 x y z w∧∃x5 x6,p6 x y z w x5 x6∧q6 x y z w x5 x6∧r6 x y z w x5 x6) (f:∀x y,p2 x y→∀z w,p4 x y z w→∀x5 x6,p6 x y z w x5 x6→q6 x y z w x5 x6→r6 x y z w x5 x6→b):b:=h.elim fun x0 h0=>h0.elim fun x1 h1=>mP h1.2 (f x0 x1 h1.1)
theorem nH (h:∃x y,p2 x y∧∃z w,p4 x y z w∧∃x5 x6 x7,p7 x y z w x5 x6 x7∧q7 x y z w x5 x6 x7) (f:∀x y,p2 x y→∀z w,p4 x y z w→∀x5 x6 x7,p7 x y z w x5 x6 x7→q7 x y z w x5 x6 x7→b):b:=h.elim fun x0 h0=>h0.elim fun x1 h1=>h1.2.elim fun x3 h3=>k8 h3 (f x0 x1 h1.1 x3)
theorem nG (h:∃x y,p2 x y∧∃z w x5 x6,p6 x y z w x5 x6∧q6 x y z w x5 x6∧r6 x y z w x5 x6∧s6 x y z w x5 x6) (f:∀x y,p2 x y→∀z w x5 x6,p6 x y z w x5 x6→q6 x y z w x5 x6→r6 x y z w x5 x6→s6 x y z w x5 x6→b):b:=h.elim fun x0 h0=>h0.elim fun x1 h1=>jJ h1.2 (f x0 x1 h1.1)
theorem jl (h:∃x y z w,p4 x y z w∧q4 x y z w∧r4 x y z w∧s4 x y z w∧t4 x y z w∧u4 x y z w∧v4 x y z w) (f:∀x y z w,p4 x y z w→q4 x y z w→r4 x y z w→s4 x y z w→t4 x y z w→u4 x y z w→v4 x y z w→b):b:=h.elim fun x0 h0=>cP h0 (f x0)
theorem lZ (h:p0∧∃x y z,p3 x y z∧q3 x y z∧r3 x y z∧s3 x y z∧t3 x y z∧u3 x y z∧v3 x y z∧w3 x y z) (f:p0→∀x y z,p3 x y z→q3 x y z→r3 x y z→s3 x y z→t3 x y z→u3 x y z→v3 x y z→w3 x y z→b):b:=h.2.elim fun x1 h1=>h1.elim fun x2 h2=>h2.elim fun x3 h3=>gm h3.2.2 (f h.1 x1 x2 x3 h3.1 h3.2.1)
theorem lY (h:∃x y,p2 x y∧∃z w,p4 x y z w∧∃x5 x6 x7,p7 x y z w x5 x6 x7∧q7 x y z w x5 x6 x7∧r7 x y z w x5 x6 x7) (f:∀x y,p2 x y→∀z w,p4 x y z w→∀x5 x6 x7,p7 x y z w x5 x6 x7→q7 x y z w x5 x6 x7→r7 x y z w x5 x6 x7→b):b:=h.elim fun x0 h0=>h0.elim fun x1 h1=>kZ h1.2 (f x0 x1 h1.1)
theorem lX (h:∃x y z w x5 x6 x7 x8 x9,p9 x y z w x5 x6 x7 x8 x9∧q9 x y z w x5 x6 x7 x8 x9∧r9 x y z w x5 x6 x7 x8 x9) (f:∀x y z w x5 x6 x7 x8 x9,p9 x y z w x5 x6 x7 x8 x9→q9 x y z w x5 x6 x7 x8 x9→r9 x y z w x5 x6 x7 x8 x9→b):b:=h.elim fun x0 h0=>h0.elim fun x1 h1=>h1.elim fun x2 h2=>h2.elim fun x3 h3=>h3.elim fun x4 h4=>jm h4 (f x0 x1 x2 x3 x4)
theorem k7 (h:∃x y,p2 x y∧∃z w,p4 x y z w∧∃x5 x6,p6 x y z w x5 x6∧∃x7 x8,p8 x y z w x5 x6 x7 x8∧q8 x y z w x5 x6 x7 x8) (f:∀x y,p2 x y→∀z w,p4 x y z w→∀x5 x6,p6 x y z w x5 x6→∀x7 x8,p8 x y z w x5 x6 x7 x8→q8 x y z w x5 x6 x7 x8→b):b:=h.elim fun x0 h0=>h0.elim fun x1 h1=>fE h1.2 (f x0 x1 h1.1)
theorem cx (h:∃x y z w x5 x6 x7 x8 x9 x10 x11 x12,p12 x y z w x5 x6 x7 x8 x9 x10 x11 x12) (f:∀x y z w x5 x6 x7 x8 x9 x10 x11 x12,p12 x y z w x5 x6 x7 x8 x9 x10 x11 x12→b):b:=h.elim fun x0 h0=>h0.elim fun x1 h1=>h1.elim fun x2 h2=>h2.elim fun x3 h3=>h3.elim fun x4 h4=>h4.elim fun x5 h5=>h5.elim fun x6 h6=>h6.elim fun x7 h7=>h7.elim fun x8 h8=>o6 h8 (f x0 x1 x2 x3 x4 x5 x6 x7 x8)
theorem kj (h:∃x y,p2 x y∧∃z w,p4 x y z w∧q4 x y z w∧r4 x y z w∧∃x5 x6,p6 x y z w x5 x6∧q6 x y z w x5 x6∧r6 x y z w x5 x6∧s6 x y z w x5 x6) (f:∀x y,p2 x y→∀z w,p4 x y z w→q4 x y z w→r4 x y z w→∀x5 x6,p6 x y z w x5 x6→q6 x y z w x5 x6→r6 x y z w x5 x6→s6 x y z w x5 x6→b):b:=h.elim fun x0 h0=>h0.elim fun x1 h1=>h1.2.elim fun x3 h3=>h3.elim fun x4 h4=>hS h4.2.2 (f x0 x1 h1.1 x3 x4 h4.1 h4.2.1)
theorem kh (h:∃x y,p2 x y∧∃z w,p4 x y z w∧∃x5 x6,p6 x y z w x5 x6∧q6 x y z w x5 x6∧∃x7 x8,p8 x y z w x5 x6 x7 x8∧q8 x y z w x5 x6 x7 x8) (f:∀x y,p2 x y→∀z w,p4 x y z w→∀x5 x6,p6 x y z w x5 x6→q6 x y z w x5 x6→∀x7 x8,p8 x y z w x5 x6 x7 x8→q8 x y z w x5 x6 x7 x8→b):b:=h.elim fun x0 h0=>h0.elim fun x1 h1=>gj h1.2 (f x0 x1 h1.1)
theorem jL (h:∃x y,p2 x y∧∃z w x5,p5 x y z w x5∧∃x6 x7,p7 x y z w x5 x6 x7∧q7 x y z w x5 x6 x7∧∃x8 x9,p9 x y z w x5 x6 x7 x8 x9∧q9 x y z w x5 x6 x7 x8 x9) (f:∀x y,p2 x y→∀z w x5,p5 x y z w x5→∀x6 x7,p7 x y z w x5 x6 x7→q7 x y z w x5 x6 x7→∀x8 x9,p9 x y z w x5 x6 x7 x8 x9→q9 x y z w x5 x6 x7 x8 x9→b):b:=h.elim fun x0 h0=>h0.elim fun x1 h1=>h1.2.elim fun x3 h3=>gj h3 (f x0 x1 h1.1 x3)
theorem jI (h:∃x y z w x5,p5 x y z w x5∧q5 x y z w x5∧r5 x y z w x5∧s5 x y z w x5∧t5 x y z w x5∧u5 x y z w x5∧v5 x y z w x5∧w5 x y z w x5∧i5 x y z w x5∧j5 x y z w x5) (f:∀x y z w x5,p5 x y z w x5→q5 x y z w x5→r5 x y z w x5→s5 x y z w x5→t5 x y z w x5→u5 x y z w x5→v5 x y z w x5→w5 x y z w x5→i5 x y z w x5→j5 x y z w x5→b):b:=h.elim fun x0 h0=>h0.elim fun x1 h1=>h1.elim fun x2 h2=>h2.elim fun x3 h3=>h3.elim fun x4 h4=>iV h4.2 (f x0 x1 x2 x3 x4 h4.1)
theorem cu (h:∃x y z w x5 x6 x7 x8 x9 x10 x11 x12 x13,p13 x y z w x5 x6 x7 x8 x9 x10 x11 x12 x13∧q13 x y z w x5 x6 x7 x8 x9 x10 x11 x12 x13) (f:∀x y z w x5 x6 x7 x8 x9 x10 x11 x12 x13,p13 x y z w x5 x6 x7 x8 x9 x10 x11 x12 x13→q13 x y z w x5 x6 x7 x8 x9 x10 x11 x12 x13→b):b:=h.elim fun x0 h0=>h0.elim fun x1 h1=>h1.elim fun x2 h2=>h2.elim fun x3 h3=>h3.elim fun x4 h4=>h4.elim fun x5 h5=>h5.elim fun x6 h6=>h6.elim fun x7 h7=>h7.elim fun x8 h8=>h8.elim fun x9 h9=>cM h9 (f x0 x1 x2 x3 x4 x5 x6 x7 x8 x9)
end
theorem A2 {R S:Int} (e:R≤S:=by simp +arith only):R≤S:=e
theorem jk {A B R S:Int} (h:A≤B) (e:R+B≤A+S:=by simp +arith only):R≤S:=Int.le_of_add_le_add_right (Int.le_trans e (Int.add_comm B S ▸ Int.add_le_add_right h S))
theorem nC {A B C D R S:Int} (h:A≤B) (g:C≤D) (e:R+(B+D)≤A+C+S:=by simp +arith only):R≤S:=jk (Int.add_le_add h g) e
theorem oZ {A B C D E F R S:Int} (h:A≤B) (g:C≤D) (f:E≤F) (e:R+(B+D+F)≤A+C+E+S:=by simp +arith only):R≤S:=jk (Int.add_le_add (Int.add_le_add h g) f) e
theorem Dk {R S:Nat} (e:R≤S:=by simp +arith only):R≤S:=e
theorem lU {A B R S:Nat} (h:A≤B) (e:R+B≤A+S:=by simp +arith only):R≤S:=Nat.le_of_add_le_add_right (Nat.le_trans e (Nat.add_comm B S ▸ Nat.add_le_add_right h S))
theorem mI {A B C D R S:Nat} (h:A≤B) (g:C≤D) (e:R+(B+D)≤A+C+S:=by simp +arith only):R≤S:=lU (Nat.add_le_add h g) e
theorem qc {A B C D E F R S:Nat} (h:A≤B) (g:C≤D) (f:E≤F) (e:R+(B+D+F)≤A+C+E+S:=by simp +arith only):R≤S:=lU (Nat.add_le_add (Nat.add_le_add h g) f) e
theorem q1 (i j k l:Nat) {a b:Nat} (h:a+i≤b+j) (d:Nat.ble (k+j) (i+l)=true):a+k≤b+l:=lU h (by rw[Nat.add_add_add_comm,Nat.add_add_add_comm a i];exact Nat.add_le_add_left (Nat.le_of_ble_eq_true d) _)
theorem q2 (i j k l m n:Nat) (h:a+i≤b+j) (g:b+k≤c+l) (d:Nat.ble (m+(j+l)) (i+k+n)=true):a+m≤c+n :=
 q1 (i+k) (j+l) m n (by have:=Nat.le_trans (Nat.add_le_add_right h k) (Nat.add_right_comm b k j ▸ Nat.add_le_add_right g j);rwa[Nat.add_assoc,Nat.add_assoc,Nat.add_comm l j] at this) d
theorem ny (k:Int) (h:a≤b) (d:decide (0≤k)=true):k*a≤k*b:=Int.mul_le_mul_of_nonneg_left h (of_decide_eq_true d)
theorem vU {k v:Int} {P:Prop} (h:k≤v) (f:k+1≤v→P):v=k∨P:=(Int.lt_or_eq_of_le h).elim (fun h => .inr (f h)) fun h => .inl h.symm
theorem vE {k v:Int} (h:v < k+1) (g:k≤v):v=k:=Int.le_antisymm (Int.le_of_lt_add_one h) g
theorem v4 {v:Int} (h:0≤v∧v < 4):v=0∨v=1∨v=2∨v=3:=vU h.1 fun q=>vU q fun q=>vU q (vE h.2)
theorem v5 {v:Int} (h:0≤v∧v < 5):v=0∨v=1∨v=2∨v=3∨v=4:=vU h.1 fun q=>vU q fun q=>vU q fun q=>vU q (vE h.2)
theorem v6 {v:Int} (h:0≤v∧v < 6):v=0∨v=1∨v=2∨v=3∨v=4∨v=5:=vU h.1 fun q=>vU q fun q=>vU q fun q=>vU q fun q=>vU q (vE h.2)
theorem v8 {v:Int} (h:0≤v∧v < 8):v=0∨v=1∨v=2∨v=3∨v=4∨v=5∨v=6∨v=7:=vU h.1 fun q=>vU q fun q=>vU q fun q=>vU q fun q=>vU q fun q=>vU q fun q=>vU q (vE h.2)
abbrev VS:=Value→Shared→Prop
abbrev US:=Unit→Shared→Prop
noncomputable abbrev De:=PySem.W.Fast.tw10156331382660048174
noncomputable abbrev Dg:=PySem.W.Fast.tw6613529449190102663
noncomputable abbrev A6:=PySem.W.Fast.tw11892475500146522536
noncomputable abbrev Ar:=PySem.W.Fast.tw14364793385576792824
noncomputable abbrev yv:=PySem.W.Fast.tw4187177175401517315
theorem yS:@stepT=De:=PySem.W.Fast.te10156331382660048174
theorem y5:@stepOk=Dg:=PySem.W.Fast.te6613529449190102663
theorem xq:@denote=A6:=PySem.W.Fast.te11892475500146522536
theorem wU:treeTable=Ar:=PySem.W.Fast.te14364793385576792824
theorem uh:@openSeen=yv:=PySem.W.Fast.te4187177175401517315
noncomputable def il (p:Program) (w:World) (n₀:Nat) (ann:Option Value):Nat→SharedT→Thread→Option SharedT
 | 0,_,_=>none
 | n+1,s,t=>match through t with
  | true=>some s
  | false=>match Dg n₀ ann t with
   | false=>none
   | true=>match De (A6 Ar) p w s t with
    | some (s',t')=>il p w n₀ ann n s' t'
    | none=>none
theorem mj:∀ {n:Nat} {s s':SharedT} {t:Thread},il p w n₀ ann n s t=some s'→topRun treeTable p w n₀ ann n s.abs t=some s'.abs
 | 0,_,_,_,h=>by cases h
 | n+1,s,s',t,h=>by
  unfold il at h
  unfold topRun
  rw[← yS,← y5,← xq,← wU] at h
  cases he:through t with
  | true=>rw[he] at h;cases h;rfl
  | false =>
   rw[he] at h
   cases hk:stepOk n₀ ann t with
   | false=>rw[hk] at h;cases h
   | true =>
    rw[hk] at h
    cases hs:stepT (denote treeTable) p w s t with
    | none=>rw[hs] at h;cases h
    | some r=>obtain⟨s₂,t₂⟩:=r;rw[hs] at h;rw[stepT_spec hs];exact mj h
noncomputable def vc (P:Params):BT := .node (boot_o_0 P)
 (.node (boot_o_1 P) (.node (boot_o_3 P) (.node (boot_o_7 P) .nil .nil) .nil) (.node (boot_o_5 P) (.node (boot_o_9 P) .nil .nil) .nil))
 (.node (boot_o_2 P) (.node (boot_o_4 P) (.node (boot_o_8 P) .nil .nil) .nil) (.node (boot_o_6 P) (.node (boot_o_10 P) .nil .nil) .nil))
noncomputable def ro (w:World) (os:OsState):SharedT:=⟨vc w.params,11,(boot_heap w.params).life,#[],boot_drawn,boot_toks,os⟩
theorem sM (w:World) (os:OsState):(ro w os).abs=⟨boot_heap w.params,#[],boot_drawn,boot_toks,os⟩:=by kernel_rfl
noncomputable def i9 (p q:Program) (loose:List Str) (Xt:Shared→Bool) {α:Type} (Yf:Shared→α) (H₀:Heap) (s:Shared) :=
 ((staticsOk (importedModules p.main.body) H₀ s.heap && namesBound p s.heap && gensDone s && laidKept H₀ s.heap),yv q loose (importedModules p.main.body) Xt true s,Yf s)
theorem qC {Yf:Shared→α} {Ya:World→α}
  (e:opening p=plainProg p.main.scope.names) (hN:Nat.ble 600 N=true) (f:∀s,fenceModules? p s=some s)
  (size:∀w:World,((boot_heap w.params).isNs mainGlobals,(boot_heap w.params).nsMap mainGlobals "__annotations__")=(true,ann))
  (run:∀ (w:World) (os:OsState),(il p w 11 ann N (ro w os) (topStub p)).map (fun S=>i9 p q loose Xt Yf (boot_heap w.params) S.abs)=some (true,openGood q loose,Ya w)):LeftO p q loose Xt Yf Ya N:=fun w=>by
 obtain⟨⟨h,gs,d,k,os⟩,e1,e2⟩:=Option.map_eq_some_iff.mp (boot_open (p:=p) (N:=N) e hN f w)
 (refine fY (by simpa using e2:h=boot_heap w.params∧gs=Array.mk []∧d=boot_drawn∧k=boot_toks) fun zz6 zz7 zz8 zz9=>?_;subst zz6;subst zz7;subst zz8;subst zz9)
 (refine bD (by simpa only[Prod.mk.injEq] using size w:_∧_) fun z1 z3=>?_)
 (refine aF (Option.map_eq_some_iff.mp (run w os)) fun S r1 r2=>?_)
 have r:=mj r1
 rw[sM] at r
 obtain⟨l1,l2,l3⟩:_∧_∧_:=by
  unfold i9 at r2
  rw[← uh] at r2
  simpa only[Prod.mk.injEq] using r2
 have t:topFrom treeTable p w N ⟨boot_heap w.params,#[],boot_drawn,boot_toks,os⟩=some S.abs:=by
  unfold topFrom
  dsimp only
  rw[z1,z3]
  show (match (true && true) with | true=>((topRun treeTable p w 11 ann N ⟨boot_heap w.params,#[],boot_drawn,boot_toks,os⟩ (topStub p)).bind _) | false=>none)=_
  rw[r]
  show (match staticsOk (importedModules p.main.body) (boot_heap w.params) S.abs.heap && namesBound p S.abs.heap && gensDone S.abs && laidKept (boot_heap w.params) S.abs.heap with | true=>_ | false=>_)=_
  rw[l1]
 unfold openEnds
 rw[e1]
 show (topFrom treeTable p w N _).map _=_
 rw[t]
 exact congrArg some (Prod.ext l2 l3)
section
set_option maxHeartbeats 0
noncomputable def pw:=PySem.Challenge.pw_nm0033_03
noncomputable def dD (i:Nat):Stmt:=pw.main.body.getD i (.Pass ⟨0,0,0,0⟩)
noncomputable def y9:Nat:=56
noncomputable def xl:Nat:=58
noncomputable def kK:Nat:=18
noncomputable def k9:Nat:=19
noncomputable def kD:Nat:=28
noncomputable def yQ:Nat:=1
noncomputable def dF (st:Stmt) (qual:Str) (pm:Value) (cdv:Addr):FuncData:=match st with
 | .FunctionDef name args body _ _ _ scope _ _ _=>fnOf name qual args body scope .none .none .none pm none (.ref cdv) .none
 | _=>default
noncomputable def nP (st:Stmt):List Stmt:=match st with
 | .ClassDef _ _ _ b .. => b
 | _=>[]
noncomputable def kg:Stmt := .Pass ⟨0,0,0,0⟩
noncomputable def mz (i:Nat) (q:Str) (pm:Value) (cd:Addr):FuncData:=dF ((nP (dD y9)).getD i kg) q pm cd
noncomputable def m9 (pm:Value) (cd:Addr):FuncData:=dF ((nP (dD yQ)).getD 0 kg) "Trap.__init__" pm cd
noncomputable def nz (pm:Value) (cd:Addr):FuncData:=dF ((nP (dD xl)).getD 0 kg) "Image.__init__" pm cd
noncomputable def uO (s:String) (t:Nat) (v:Value) (l:List (Params→DictEntry)):List (Params→DictEntry):=(fun P=>⟨PyData.keyHash P (Str.ofString s),.str (Str.ofString s) t,v⟩)::l
noncomputable def bA (s:String) (t a:Nat) (l:List (Params→DictEntry)):List (Params→DictEntry):=uO s t (.ref a) l
noncomputable def lP (s:String) (t i u:Nat) (l:List (Params→DictEntry)):List (Params→DictEntry):=uO s t (.int (.ofNat i) u) l
noncomputable def AW (s:String) (t:Nat) (x:String) (u:Nat) (l:List (Params→DictEntry)):List (Params→DictEntry):=uO s t (.str (Str.ofString x) u) l
noncomputable def eU (i t:Nat) (x:String) (u:Nat) (l:List (Params→DictEntry)):List (Params→DictEntry):=(fun _=>⟨i,.int (.ofNat i) t,.str (Str.ofString x) u⟩)::l
noncomputable def sw (a n:Nat) (l:List (Params→DictEntry)) (r:Params→Frag) (P:Params):Frag:=(a,⟨.type "dict",none,.dict (Array.mk (l.map fun e=>e P)) n,#[]⟩)::r P
noncomputable def AX (a:Nat) (o:Obj) (r:Params→Frag) (P:Params):Frag:=(a,o)::r P
noncomputable def rk (i:Nat):Value := .int (.ofNat i) 0
noncomputable def BP (t:Nat):Value := .str (Str.ofString "/claim/cut.py") t
noncomputable def gK (a:Nat) (f:Value→Addr→FuncData) (m:String) (mt ln ar t u:Nat) (r:Params→Frag) (P:Params):Frag :=
 (a - 1,⟨.type "code",none,.fields #[.str (f .none 0).name t,.str (f .none 0).qualname (t+1),BP (t+2),rk ln,rk ar,rk 0,rk 0,rk 3,.ref (a - 6),.bool true,rk 181,.ref (a - 5),.none,.ref (a - 4),.ref (a - 3),.ref (a - 2),.int (.ofNat u) 0,rk ln,BP (u+1)],#[]⟩) ::
 (a,⟨.type "function",none,.func (f (.str (Str.ofString m) mt) (a - 1)),#[]⟩)::r P
noncomputable def CP (a:Nat) (x b n:String) (ns t1 t2:Nat) (s:Option Value) (mro:List Value) (r:Params→Frag) (P:Params):Frag :=
 (a,⟨.type "type",none,.cls { name:=Str.ofString x,bases:=[.type b],mro := .ref a :: .type b::mro,ns:=ns,qualname:=Str.ofString x },#[s,none,some (.str (Str.ofString x) t1),some (.str (Str.ofString x) t2),some (.builtin n),some (.bool true)]⟩)::r P
noncomputable def Ai:Params→Frag :=
 sw (nat_lit 3) (nat_lit 85) (AW "__name__" (nat_lit 165) "law_nm0033_03" (nat_lit 1267)<|uO "__doc__" (nat_lit 166) .none<|uO "__package__" (nat_lit 167) .none<|uO "__loader__" (nat_lit 168) (.builtin "__main__.__loader__#opaque")<|uO "__spec__" (nat_lit 169) .none<|bA "__annotations__" (nat_lit 170) (nat_lit 6)<|bA "__builtins__" (nat_lit 171) (nat_lit 4)<|AW "__file__" (nat_lit 173) "/claim/cut.py" (nat_lit 172)<|uO "__cached__" (nat_lit 174) .none<|bA "Trap" (nat_lit 219) (nat_lit 31)<|lP "WORD_MASK" (nat_lit 221) (nat_lit 4294967295) (nat_lit 220)<|lP "LUI" (nat_lit 225) (nat_lit 55) (nat_lit 224)<|lP "AUIPC" (nat_lit 227) (nat_lit 23) (nat_lit 226)<|lP "JAL" (nat_lit 229) (nat_lit 111) (nat_lit 228)<|lP "WITH_IMM" (nat_lit 231) (nat_lit 19) (nat_lit 230)<|lP "WITH_REG" (nat_lit 233) (nat_lit 51) (nat_lit 232)<|lP "FENCE" (nat_lit 235) (nat_lit 15) (nat_lit 234)<|lP "SYSTEM" (nat_lit 237) (nat_lit 115) (nat_lit 236)<|bA "INSTRUCTIONS" (nat_lit 430) (nat_lit 35)<|bA "PLACES" (nat_lit 475) (nat_lit 86)<|bA "BOUNDS" (nat_lit 515) (nat_lit 109)<|bA "signed" (nat_lit 524) (nat_lit 123)<|bA "imm_of" (nat_lit 533) (nat_lit 130)<|bA "names_by_base" (nat_lit 539) (nat_lit 135)<|bA "NAMES_BY_BASE" (nat_lit 732) (nat_lit 139)<|bA "name_of" (nat_lit 741) (nat_lit 341)<|bA "decode" (nat_lit 753) (nat_lit 348)<|lP "SP" (nat_lit 757) (nat_lit 2) (nat_lit 756)<|lP "A0" (nat_lit 759) (nat_lit 10) (nat_lit 758)<|lP "A7" (nat_lit 761) (nat_lit 17) (nat_lit 760)<|lP "SIGN" (nat_lit 763) (nat_lit 2147483648) (nat_lit 762)<|lP "EXIT" (nat_lit 765) (nat_lit 93) (nat_lit 764)<|lP "PUT" (nat_lit 767) (nat_lit 1) (nat_lit 766)<|lP "GET" (nat_lit 769) (nat_lit 2) (nat_lit 768)<|bA "signed_word" (nat_lit 776) (nat_lit 355)<|bA "added" (nat_lit 784) (nat_lit 362)<|bA "subtracted" (nat_lit 792) (nat_lit 369)<|bA "shifted_left" (nat_lit 800) (nat_lit 376)<|bA "shifted_right" (nat_lit 808) (nat_lit 383)<|bA "shifted_signed" (nat_lit 816) (nat_lit 390)<|bA "less" (nat_lit 824) (nat_lit 397)<|bA "less_unsigned" (nat_lit 832) (nat_lit 404)<|bA "not_less" (nat_lit 840) (nat_lit 411)<|bA "not_less_unsigned" (nat_lit 848) (nat_lit 418)<|bA "same" (nat_lit 856) (nat_lit 425)<|bA "unlike" (nat_lit 864) (nat_lit 432)<|bA "xored" (nat_lit 872) (nat_lit 439)<|bA "ored" (nat_lit 880) (nat_lit 446)<|bA "anded" (nat_lit 888) (nat_lit 453)<|bA "multiplied" (nat_lit 896) (nat_lit 460)<|bA "high_signed" (nat_lit 904) (nat_lit 467)<|bA "high_mixed" (nat_lit 912) (nat_lit 474)<|bA "high_unsigned" (nat_lit 920) (nat_lit 481)<|bA "divided" (nat_lit 931) (nat_lit 488)<|bA "divided_unsigned" (nat_lit 939) (nat_lit 495)<|bA "left_over" (nat_lit 949) (nat_lit 502)<|bA "left_over_unsigned" (nat_lit 957) (nat_lit 509)<|bA "WITH_REGISTERS" (nat_lit 994) (nat_lit 510)<|bA "WITH_NUMBERS" (nat_lit 1013) (nat_lit 512)<|bA "BRANCHES" (nat_lit 1026) (nat_lit 513)<|bA "LOADS" (nat_lit 1042) (nat_lit 514)<|bA "STORES" (nat_lit 1052) (nat_lit 520)<|bA "Machine" (nat_lit 1224) (nat_lit 628)<|bA "Image" (nat_lit 1266) (nat_lit 649)<|lP "_law_all" (nat_lit 1270) (nat_lit 4294967296) (nat_lit 1269)<|bA "_law_draw" (nat_lit 1282) (nat_lit 660)<|bA "_law_where" (nat_lit 1293) (nat_lit 667)<|bA "_law_faults" (nat_lit 1304) (nat_lit 674)<|bA "_law_weighed" (nat_lit 1313) (nat_lit 681)<|bA "_law_outer" (nat_lit 1322) (nat_lit 688)<|bA "_law_stands" (nat_lit 1330) (nat_lit 695)<|bA "_law_told" (nat_lit 1339) (nat_lit 702)<|bA "_law_agrees" (nat_lit 1349) (nat_lit 709)<|bA "_law_stored" (nat_lit 1365) (nat_lit 716)<|bA "_law_loaded" (nat_lit 1380) (nat_lit 723)<|bA "_law_row_read" (nat_lit 1395) (nat_lit 730)<|bA "_law_register_put" (nat_lit 1406) (nat_lit 737)<|bA "_law_called" (nat_lit 1422) (nat_lit 744)<|bA "_law_jumped" (nat_lit 1434) (nat_lit 751)<|bA "_law_deeds_right" (nat_lit 1446) (nat_lit 758)<|bA "_law_state" (nat_lit 1458) (nat_lit 765)<|bA "_law_walk" (nat_lit 1469) (nat_lit 772)<|bA "_law_run_right" (nat_lit 1490) (nat_lit 779)<|bA "_law_no_room" (nat_lit 1505) (nat_lit 786)<|bA "law" (nat_lit 1511) (nat_lit 791) []) <|
 gK (nat_lit 28) m9 "corecc.errors" (nat_lit 187) (nat_lit 4) (nat_lit 3) (nat_lit 201) (nat_lit 207) <|
 AX (nat_lit 29) ⟨.type "tuple",none,.seq #[Value.str (Str.ofString "at") 210,Value.str (Str.ofString "word") 211],#[]⟩ <|
 sw (nat_lit 30) (nat_lit 3) (AW "__module__" (nat_lit 196) "corecc.errors" (nat_lit 187)<|lP "__firstlineno__" (nat_lit 200) (nat_lit 2) (nat_lit 199)<|bA "__init__" (nat_lit 209) (nat_lit 28)<|bA "__static_attributes__" (nat_lit 212) (nat_lit 29)<|bA "__weakref__" (nat_lit 214) (nat_lit 32)<|uO "__doc__" (nat_lit 215) .none []) <|
 CP (nat_lit 31) "Trap" "Exception" "Exception.__new__" (nat_lit 30) (nat_lit 189) (nat_lit 197) (some (Value.ref 15)) [Value.type "BaseException",Value.type "object"] <|
 sw (nat_lit 35) (nat_lit 48) (bA "lui" (nat_lit 238) (nat_lit 36)<|bA "auipc" (nat_lit 242) (nat_lit 37)<|bA "jal" (nat_lit 246) (nat_lit 38)<|bA "jalr" (nat_lit 250) (nat_lit 39)<|bA "beq" (nat_lit 254) (nat_lit 40)<|bA "bne" (nat_lit 258) (nat_lit 41)<|bA "blt" (nat_lit 262) (nat_lit 42)<|bA "bge" (nat_lit 266) (nat_lit 43)<|bA "bltu" (nat_lit 270) (nat_lit 44)<|bA "bgeu" (nat_lit 274) (nat_lit 45)<|bA "lb" (nat_lit 278) (nat_lit 46)<|bA "lh" (nat_lit 282) (nat_lit 47)<|bA "lw" (nat_lit 286) (nat_lit 48)<|bA "lbu" (nat_lit 290) (nat_lit 49)<|bA "lhu" (nat_lit 294) (nat_lit 50)<|bA "sb" (nat_lit 298) (nat_lit 51)<|bA "sh" (nat_lit 302) (nat_lit 52)<|bA "sw" (nat_lit 306) (nat_lit 54)<|bA "addi" (nat_lit 310) (nat_lit 55)<|bA "slti" (nat_lit 314) (nat_lit 56)<|bA "sltiu" (nat_lit 318) (nat_lit 57)<|bA "xori" (nat_lit 322) (nat_lit 58)<|bA "ori" (nat_lit 326) (nat_lit 59)<|bA "andi" (nat_lit 330) (nat_lit 60)<|bA "slli" (nat_lit 334) (nat_lit 61)<|bA "srli" (nat_lit 338) (nat_lit 62)<|bA "srai" (nat_lit 342) (nat_lit 63)<|bA "add" (nat_lit 346) (nat_lit 64)<|bA "sub" (nat_lit 350) (nat_lit 65)<|bA "sll" (nat_lit 354) (nat_lit 66)<|bA "slt" (nat_lit 358) (nat_lit 67)<|bA "sltu" (nat_lit 362) (nat_lit 68)<|bA "xor" (nat_lit 366) (nat_lit 69)<|bA "srl" (nat_lit 370) (nat_lit 70)<|bA "sra" (nat_lit 374) (nat_lit 72)<|bA "or" (nat_lit 377) (nat_lit 73)<|bA "and" (nat_lit 380) (nat_lit 74)<|bA "mul" (nat_lit 383) (nat_lit 75)<|bA "mulh" (nat_lit 386) (nat_lit 76)<|bA "mulhsu" (nat_lit 389) (nat_lit 77)<|bA "mulhu" (nat_lit 392) (nat_lit 78)<|bA "div" (nat_lit 395) (nat_lit 79)<|bA "divu" (nat_lit 398) (nat_lit 80)<|bA "rem" (nat_lit 401) (nat_lit 81)<|bA "remu" (nat_lit 404) (nat_lit 82)<|bA "fence" (nat_lit 407) (nat_lit 83)<|bA "ecall" (nat_lit 410) (nat_lit 84)<|bA "ebreak" (nat_lit 413) (nat_lit 85) []) <|
 AX (nat_lit 84) ⟨.type "tuple",none,.seq #[Value.str (Str.ofString "E") 411,Value.int 115 412],#[]⟩ <|
 sw (nat_lit 86) (nat_lit 9) (bA "R" (nat_lit 431) (nat_lit 90)<|bA "I" (nat_lit 438) (nat_lit 93)<|bA "H" (nat_lit 443) (nat_lit 96)<|bA "S" (nat_lit 448) (nat_lit 99)<|bA "B" (nat_lit 453) (nat_lit 102)<|bA "U" (nat_lit 458) (nat_lit 104)<|bA "J" (nat_lit 461) (nat_lit 106)<|bA "F" (nat_lit 464) (nat_lit 107)<|bA "E" (nat_lit 465) (nat_lit 108) []) <|
 AX (nat_lit 108) ⟨.type "tuple",none,.seq #[],#[]⟩ <|
 sw (nat_lit 109) (nat_lit 7) (bA "I" (nat_lit 476) (nat_lit 110)<|bA "H" (nat_lit 481) (nat_lit 111)<|bA "S" (nat_lit 485) (nat_lit 112)<|bA "B" (nat_lit 490) (nat_lit 113)<|bA "U" (nat_lit 495) (nat_lit 114)<|bA "J" (nat_lit 499) (nat_lit 115)<|bA "F" (nat_lit 504) (nat_lit 116) []) <|
 sw (nat_lit 139) (nat_lit 48) (eU (nat_lit 55) (nat_lit 240) "lui" (nat_lit 238)<|eU (nat_lit 23) (nat_lit 244) "auipc" (nat_lit 242)<|eU (nat_lit 111) (nat_lit 248) "jal" (nat_lit 246)<|eU (nat_lit 103) (nat_lit 252) "jalr" (nat_lit 250)<|eU (nat_lit 99) (nat_lit 256) "beq" (nat_lit 254)<|eU (nat_lit 4195) (nat_lit 260) "bne" (nat_lit 258)<|eU (nat_lit 16483) (nat_lit 264) "blt" (nat_lit 262)<|eU (nat_lit 20579) (nat_lit 268) "bge" (nat_lit 266)<|eU (nat_lit 24675) (nat_lit 272) "bltu" (nat_lit 270)<|eU (nat_lit 28771) (nat_lit 276) "bgeu" (nat_lit 274)<|eU (nat_lit 3) (nat_lit 280) "lb" (nat_lit 278)<|eU (nat_lit 4099) (nat_lit 284) "lh" (nat_lit 282)<|eU (nat_lit 8195) (nat_lit 288) "lw" (nat_lit 286)<|eU (nat_lit 16387) (nat_lit 292) "lbu" (nat_lit 290)<|eU (nat_lit 20483) (nat_lit 296) "lhu" (nat_lit 294)<|eU (nat_lit 35) (nat_lit 300) "sb" (nat_lit 298)<|eU (nat_lit 4131) (nat_lit 304) "sh" (nat_lit 302)<|eU (nat_lit 8227) (nat_lit 308) "sw" (nat_lit 306)<|eU (nat_lit 19) (nat_lit 312) "addi" (nat_lit 310)<|eU (nat_lit 8211) (nat_lit 316) "slti" (nat_lit 314)<|eU (nat_lit 12307) (nat_lit 320) "sltiu" (nat_lit 318)<|eU (nat_lit 16403) (nat_lit 324) "xori" (nat_lit 322)<|eU (nat_lit 24595) (nat_lit 328) "ori" (nat_lit 326)<|eU (nat_lit 28691) (nat_lit 332) "andi" (nat_lit 330)<|eU (nat_lit 4115) (nat_lit 336) "slli" (nat_lit 334)<|eU (nat_lit 20499) (nat_lit 340) "srli" (nat_lit 338)<|eU (nat_lit 1073762323) (nat_lit 344) "srai" (nat_lit 342)<|eU (nat_lit 51) (nat_lit 348) "add" (nat_lit 346)<|eU (nat_lit 1073741875) (nat_lit 352) "sub" (nat_lit 350)<|eU (nat_lit 4147) (nat_lit 356) "sll" (nat_lit 354)<|eU (nat_lit 8243) (nat_lit 360) "slt" (nat_lit 358)<|eU (nat_lit 12339) (nat_lit 364) "sltu" (nat_lit 362)<|eU (nat_lit 16435) (nat_lit 368) "xor" (nat_lit 366)<|eU (nat_lit 20531) (nat_lit 372) "srl" (nat_lit 370)<|eU (nat_lit 1073762355) (nat_lit 376) "sra" (nat_lit 374)<|eU (nat_lit 24627) (nat_lit 379) "or" (nat_lit 377)<|eU (nat_lit 28723) (nat_lit 382) "and" (nat_lit 380)<|eU (nat_lit 33554483) (nat_lit 385) "mul" (nat_lit 383)<|eU (nat_lit 33558579) (nat_lit 388) "mulh" (nat_lit 386)<|eU (nat_lit 33562675) (nat_lit 391) "mulhsu" (nat_lit 389)<|eU (nat_lit 33566771) (nat_lit 394) "mulhu" (nat_lit 392)<|eU (nat_lit 33570867) (nat_lit 397) "div" (nat_lit 395)<|eU (nat_lit 33574963) (nat_lit 400) "divu" (nat_lit 398)<|eU (nat_lit 33579059) (nat_lit 403) "rem" (nat_lit 401)<|eU (nat_lit 33583155) (nat_lit 406) "remu" (nat_lit 404)<|eU (nat_lit 15) (nat_lit 409) "fence" (nat_lit 407)<|eU (nat_lit 115) (nat_lit 412) "ecall" (nat_lit 410)<|eU (nat_lit 1048691) (nat_lit 415) "ebreak" (nat_lit 413) []) <|
 gK (nat_lit 341) (dF (dD kK) "name_of") "corecc.rv32" (nat_lit 222) (nat_lit 42) (nat_lit 1) (nat_lit 733) (nat_lit 739) <|
 gK (nat_lit 348) (dF (dD k9) "decode") "corecc.rv32" (nat_lit 222) (nat_lit 53) (nat_lit 1) (nat_lit 742) (nat_lit 751) <|
 gK (nat_lit 355) (dF (dD kD) "signed_word") "corecc.machine" (nat_lit 754) (nat_lit 72) (nat_lit 1) (nat_lit 770) (nat_lit 774) <|
 sw (nat_lit 510) (nat_lit 18) (bA "add" (nat_lit 958) (nat_lit 362)<|bA "sub" (nat_lit 960) (nat_lit 369)<|bA "sll" (nat_lit 962) (nat_lit 376)<|bA "slt" (nat_lit 964) (nat_lit 397)<|bA "sltu" (nat_lit 966) (nat_lit 404)<|bA "xor" (nat_lit 968) (nat_lit 439)<|bA "srl" (nat_lit 970) (nat_lit 383)<|bA "sra" (nat_lit 972) (nat_lit 390)<|bA "or" (nat_lit 974) (nat_lit 446)<|bA "and" (nat_lit 976) (nat_lit 453)<|bA "mul" (nat_lit 978) (nat_lit 460)<|bA "mulh" (nat_lit 980) (nat_lit 467)<|bA "mulhsu" (nat_lit 982) (nat_lit 474)<|bA "mulhu" (nat_lit 984) (nat_lit 481)<|bA "div" (nat_lit 986) (nat_lit 488)<|bA "divu" (nat_lit 988) (nat_lit 495)<|bA "rem" (nat_lit 990) (nat_lit 502)<|bA "remu" (nat_lit 992) (nat_lit 509) []) <|
 sw (nat_lit 512) (nat_lit 9) (bA "addi" (nat_lit 995) (nat_lit 362)<|bA "slti" (nat_lit 996) (nat_lit 397)<|bA "sltiu" (nat_lit 997) (nat_lit 404)<|bA "xori" (nat_lit 998) (nat_lit 439)<|bA "ori" (nat_lit 999) (nat_lit 446)<|bA "andi" (nat_lit 1000) (nat_lit 453)<|bA "slli" (nat_lit 1001) (nat_lit 376)<|bA "srli" (nat_lit 1002) (nat_lit 383)<|bA "srai" (nat_lit 1003) (nat_lit 390) []) <|
 sw (nat_lit 513) (nat_lit 6) (bA "beq" (nat_lit 1014) (nat_lit 425)<|bA "bne" (nat_lit 1015) (nat_lit 432)<|bA "blt" (nat_lit 1016) (nat_lit 397)<|bA "bge" (nat_lit 1017) (nat_lit 411)<|bA "bltu" (nat_lit 1018) (nat_lit 404)<|bA "bgeu" (nat_lit 1019) (nat_lit 418) []) <|
 sw (nat_lit 514) (nat_lit 5) (bA "lb" (nat_lit 1027) (nat_lit 515)<|bA "lh" (nat_lit 1029) (nat_lit 516)<|bA "lw" (nat_lit 1031) (nat_lit 517)<|bA "lbu" (nat_lit 1033) (nat_lit 518)<|bA "lhu" (nat_lit 1035) (nat_lit 519) []) <|
 sw (nat_lit 520) (nat_lit 3) (lP "sb" (nat_lit 1043) (nat_lit 1) (nat_lit 1044)<|lP "sh" (nat_lit 1045) (nat_lit 2) (nat_lit 1046)<|lP "sw" (nat_lit 1047) (nat_lit 4) (nat_lit 1048) []) <|
 gK (nat_lit 534) (mz (nat_lit 0) "Machine.__init__") "corecc.machine" (nat_lit 754) (nat_lit 133) (nat_lit 3) (nat_lit 1065) (nat_lit 1073) <|
 gK (nat_lit 541) (mz (nat_lit 1) "Machine.place_of") "corecc.machine" (nat_lit 754) (nat_lit 153) (nat_lit 3) (nat_lit 1076) (nat_lit 1083) <|
 gK (nat_lit 548) (mz (nat_lit 2) "Machine.place_for") "corecc.machine" (nat_lit 754) (nat_lit 159) (nat_lit 3) (nat_lit 1086) (nat_lit 1092) <|
 gK (nat_lit 555) (mz (nat_lit 3) "Machine.load") "corecc.machine" (nat_lit 754) (nat_lit 164) (nat_lit 3) (nat_lit 1095) (nat_lit 1102) <|
 gK (nat_lit 562) (mz (nat_lit 4) "Machine.store") "corecc.machine" (nat_lit 754) (nat_lit 168) (nat_lit 4) (nat_lit 1105) (nat_lit 1114) <|
 gK (nat_lit 569) (mz (nat_lit 5) "Machine.octets_at") "corecc.machine" (nat_lit 754) (nat_lit 173) (nat_lit 3) (nat_lit 1117) (nat_lit 1124) <|
 gK (nat_lit 576) (mz (nat_lit 6) "Machine.put") "corecc.machine" (nat_lit 754) (nat_lit 177) (nat_lit 3) (nat_lit 1127) (nat_lit 1133) <|
 gK (nat_lit 583) (mz (nat_lit 7) "Machine.instruction_at") "corecc.machine" (nat_lit 754) (nat_lit 181) (nat_lit 2) (nat_lit 1136) (nat_lit 1143) <|
 gK (nat_lit 590) (mz (nat_lit 8) "Machine.jump") "corecc.machine" (nat_lit 754) (nat_lit 190) (nat_lit 2) (nat_lit 1146) (nat_lit 1151) <|
 gK (nat_lit 597) (mz (nat_lit 9) "Machine.step") "corecc.machine" (nat_lit 754) (nat_lit 195) (nat_lit 1) (nat_lit 1154) (nat_lit 1162) <|
 gK (nat_lit 604) (mz (nat_lit 10) "Machine.move") "corecc.machine" (nat_lit 754) (nat_lit 216) (nat_lit 3) (nat_lit 1165) (nat_lit 1175) <|
 gK (nat_lit 611) (mz (nat_lit 11) "Machine.lead") "corecc.machine" (nat_lit 754) (nat_lit 227) (nat_lit 3) (nat_lit 1178) (nat_lit 1185) <|
 gK (nat_lit 618) (mz (nat_lit 12) "Machine.call_out") "corecc.machine" (nat_lit 754) (nat_lit 247) (nat_lit 1) (nat_lit 1188) (nat_lit 1193) <|
 gK (nat_lit 625) (mz (nat_lit 13) "Machine.run") "corecc.machine" (nat_lit 754) (nat_lit 260) (nat_lit 2) (nat_lit 1196) (nat_lit 1202) <|
 sw (nat_lit 627) (nat_lit 4) (AW "__module__" (nat_lit 1060) "corecc.machine" (nat_lit 754)<|lP "__firstlineno__" (nat_lit 1064) (nat_lit 131) (nat_lit 1063)<|bA "__init__" (nat_lit 1075) (nat_lit 534)<|bA "place_of" (nat_lit 1085) (nat_lit 541)<|bA "place_for" (nat_lit 1094) (nat_lit 548)<|bA "load" (nat_lit 1104) (nat_lit 555)<|bA "store" (nat_lit 1116) (nat_lit 562)<|bA "octets_at" (nat_lit 1126) (nat_lit 569)<|bA "put" (nat_lit 1135) (nat_lit 576)<|bA "instruction_at" (nat_lit 1145) (nat_lit 583)<|bA "jump" (nat_lit 1153) (nat_lit 590)<|bA "step" (nat_lit 1164) (nat_lit 597)<|bA "move" (nat_lit 1177) (nat_lit 604)<|bA "lead" (nat_lit 1187) (nat_lit 611)<|bA "call_out" (nat_lit 1195) (nat_lit 618)<|bA "run" (nat_lit 1204) (nat_lit 625)<|bA "__static_attributes__" (nat_lit 1217) (nat_lit 626)<|bA "__dict__" (nat_lit 1219) (nat_lit 629)<|bA "__weakref__" (nat_lit 1221) (nat_lit 630)<|uO "__doc__" (nat_lit 1222) .none []) <|
 CP (nat_lit 628) "Machine" "object" "object.__new__" (nat_lit 627) (nat_lit 1053) (nat_lit 1061) (none) [] <|
 gK (nat_lit 646) nz "corecc.linking" (nat_lit 1225) (nat_lit 271) (nat_lit 6) (nat_lit 1239) (nat_lit 1248) <|
 sw (nat_lit 648) (nat_lit 4) (AW "__module__" (nat_lit 1234) "corecc.linking" (nat_lit 1225)<|lP "__firstlineno__" (nat_lit 1238) (nat_lit 269) (nat_lit 1237)<|bA "__init__" (nat_lit 1250) (nat_lit 646)<|bA "__static_attributes__" (nat_lit 1259) (nat_lit 647)<|bA "__dict__" (nat_lit 1261) (nat_lit 650)<|bA "__weakref__" (nat_lit 1263) (nat_lit 651)<|uO "__doc__" (nat_lit 1264) .none []) <|
 CP (nat_lit 649) "Image" "object" "object.__new__" (nat_lit 648) (nat_lit 1227) (nat_lit 1235) (none) [] <|
 gK (nat_lit 660) (dF (dD (nat_lit 61)) "_law_draw") "law_nm0033_03" (nat_lit 1267) (nat_lit 282) (nat_lit 2) (nat_lit 1271) (nat_lit 1280) <|
 gK (nat_lit 667) (dF (dD (nat_lit 62)) "_law_where") "law_nm0033_03" (nat_lit 1267) (nat_lit 290) (nat_lit 2) (nat_lit 1283) (nat_lit 1291) <|
 gK (nat_lit 674) (dF (dD (nat_lit 63)) "_law_faults") "law_nm0033_03" (nat_lit 1267) (nat_lit 296) (nat_lit 4) (nat_lit 1294) (nat_lit 1302) <|
 gK (nat_lit 681) (dF (dD (nat_lit 64)) "_law_weighed") "law_nm0033_03" (nat_lit 1267) (nat_lit 303) (nat_lit 1) (nat_lit 1305) (nat_lit 1311) <|
 gK (nat_lit 688) (dF (dD (nat_lit 65)) "_law_outer") "law_nm0033_03" (nat_lit 1267) (nat_lit 308) (nat_lit 1) (nat_lit 1314) (nat_lit 1320) <|
 gK (nat_lit 695) (dF (dD (nat_lit 66)) "_law_stands") "law_nm0033_03" (nat_lit 1267) (nat_lit 321) (nat_lit 2) (nat_lit 1323) (nat_lit 1328) <|
 gK (nat_lit 702) (dF (dD (nat_lit 67)) "_law_told") "law_nm0033_03" (nat_lit 1267) (nat_lit 327) (nat_lit 1) (nat_lit 1331) (nat_lit 1337) <|
 gK (nat_lit 709) (dF (dD (nat_lit 68)) "_law_agrees") "law_nm0033_03" (nat_lit 1267) (nat_lit 333) (nat_lit 4) (nat_lit 1340) (nat_lit 1347) <|
 gK (nat_lit 716) (dF (dD (nat_lit 69)) "_law_stored") "law_nm0033_03" (nat_lit 1267) (nat_lit 337) (nat_lit 3) (nat_lit 1350) (nat_lit 1363) <|
 gK (nat_lit 723) (dF (dD (nat_lit 70)) "_law_loaded") "law_nm0033_03" (nat_lit 1267) (nat_lit 346) (nat_lit 3) (nat_lit 1366) (nat_lit 1378) <|
 gK (nat_lit 730) (dF (dD (nat_lit 71)) "_law_row_read") "law_nm0033_03" (nat_lit 1267) (nat_lit 352) (nat_lit 3) (nat_lit 1381) (nat_lit 1393) <|
 gK (nat_lit 737) (dF (dD (nat_lit 72)) "_law_register_put") "law_nm0033_03" (nat_lit 1267) (nat_lit 358) (nat_lit 3) (nat_lit 1396) (nat_lit 1404) <|
 gK (nat_lit 744) (dF (dD (nat_lit 73)) "_law_called") "law_nm0033_03" (nat_lit 1267) (nat_lit 364) (nat_lit 3) (nat_lit 1407) (nat_lit 1420) <|
 gK (nat_lit 751) (dF (dD (nat_lit 74)) "_law_jumped") "law_nm0033_03" (nat_lit 1267) (nat_lit 374) (nat_lit 3) (nat_lit 1423) (nat_lit 1432) <|
 gK (nat_lit 758) (dF (dD (nat_lit 75)) "_law_deeds_right") "law_nm0033_03" (nat_lit 1267) (nat_lit 384) (nat_lit 3) (nat_lit 1435) (nat_lit 1444) <|
 gK (nat_lit 765) (dF (dD (nat_lit 76)) "_law_state") "law_nm0033_03" (nat_lit 1267) (nat_lit 405) (nat_lit 5) (nat_lit 1447) (nat_lit 1456) <|
 gK (nat_lit 772) (dF (dD (nat_lit 77)) "_law_walk") "law_nm0033_03" (nat_lit 1267) (nat_lit 412) (nat_lit 3) (nat_lit 1459) (nat_lit 1467) <|
 gK (nat_lit 779) (dF (dD (nat_lit 78)) "_law_run_right") "law_nm0033_03" (nat_lit 1267) (nat_lit 427) (nat_lit 3) (nat_lit 1470) (nat_lit 1488) <|
 gK (nat_lit 786) (dF (dD (nat_lit 79)) "_law_no_room") "law_nm0033_03" (nat_lit 1267) (nat_lit 440) (nat_lit 4) (nat_lit 1491) (nat_lit 1503) <|
 AX (nat_lit 790) ⟨.type "code",none,.fields #[.str (Str.ofString "law") (nat_lit 1506),.str (Str.ofString "law") (nat_lit 1507),BP (nat_lit 1508),rk (nat_lit 443),rk (nat_lit 1),rk 0,rk 0,rk 3,.ref 787,.bool true,rk 181,.ref 788,.none,.none,.none,.ref 789,.int 1509 0,rk (nat_lit 443),BP (nat_lit 1510)],#[]⟩ <|
 AX (nat_lit 791) ⟨.type "function",none,.func (dF (dD 80) "law" (.str (Str.ofString "law_nm0033_03") (nat_lit 1267)) (nat_lit 790)),#[]⟩<|fun _=>[]
noncomputable def Bj:List Addr:=[nat_lit 3,nat_lit 27,nat_lit 28,nat_lit 29,nat_lit 30,nat_lit 31,nat_lit 35,nat_lit 84,nat_lit 86,nat_lit 108,nat_lit 109,nat_lit 139,nat_lit 340,nat_lit 341,nat_lit 347,nat_lit 348,nat_lit 354,nat_lit 355,nat_lit 510,nat_lit 512,nat_lit 513,nat_lit 514,nat_lit 520,nat_lit 533,nat_lit 534,nat_lit 540,nat_lit 541,nat_lit 547,nat_lit 548,nat_lit 554,nat_lit 555,nat_lit 561,nat_lit 562,nat_lit 568,nat_lit 569,nat_lit 575,nat_lit 576,nat_lit 582,nat_lit 583,nat_lit 589,nat_lit 590,nat_lit 596,nat_lit 597,nat_lit 603,nat_lit 604,nat_lit 610,nat_lit 611,nat_lit 617,nat_lit 618,nat_lit 624,nat_lit 625,nat_lit 627,nat_lit 628,nat_lit 645,nat_lit 646,nat_lit 648,nat_lit 649,nat_lit 659,nat_lit 660,nat_lit 666,nat_lit 667,nat_lit 673,nat_lit 674,nat_lit 680,nat_lit 681,nat_lit 687,nat_lit 688,nat_lit 694,nat_lit 695,nat_lit 701,nat_lit 702,nat_lit 708,nat_lit 709,nat_lit 715,nat_lit 716,nat_lit 722,nat_lit 723,nat_lit 729,nat_lit 730,nat_lit 736,nat_lit 737,nat_lit 743,nat_lit 744,nat_lit 750,nat_lit 751,nat_lit 757,nat_lit 758,nat_lit 764,nat_lit 765,nat_lit 771,nat_lit 772,nat_lit 778,nat_lit 779,nat_lit 785,nat_lit 786,nat_lit 790,nat_lit 791]
theorem xx:∀P,Bj=(Ai P).map (·.1):=fun _=>by kernel_rfl
noncomputable def tQ:Hook:=kHook Ai Bj xx
noncomputable abbrev ut:=PySem.Challenge.pw_nm0033_03
noncomputable def r8:Program:=view ut [69,70,71,73,74,78,79,80]
noncomputable def gd:List Str:=(ut.main.body.flatMap bindsAtTop).filter fun x=>!((["_law_stored", "_law_loaded", "_law_row_read", "_law_called", "_law_jumped", "_law_run_right", "_law_no_room", "law"]:List Str).contains x)
theorem Ct:opening ut=plainProg ut.main.scope.names:=rfl
theorem CT (s:Shared):fenceModules? ut s=some s:=rfl
theorem Cb (w:World):((boot_heap w.params).isNs mainGlobals,(boot_heap w.params).nsMap mainGlobals "__annotations__")=(true,some (.ref 6)):=by kernel_rfl
noncomputable abbrev BU:Shared→Bool:=fun s=>xlAt r8 [] s && recOk (RowW.records (OpenRow.toRowW (OpenLaw.row PySem.Challenge.rw_nm0033_03))) s
def tP (w:World):Prop:=∀os,(il ut w 11 (some (.ref 6)) 20896 (ro w os) (topStub ut)).map (fun S=>i9 ut r8 gd BU (Hook.obs tQ) (boot_heap w.params) S.abs)=some (true,openGood r8 gd,Hook.val tQ w)
theorem kr {w:World} (h:(fun os=>(il ut w 11 (some (.ref 6)) 20896 (ro w os) (topStub ut)).map (fun S=>i9 ut r8 gd BU (Hook.obs tQ) (boot_heap w.params) S.abs))=fun _=>some (true,openGood r8 gd,Hook.val tQ w)):tP w:=fun os=>congrFun h os
end
set_option maxHeartbeats 0 in
theorem wP (w:World):tP ((w.withFollow "special-get-raises" false).withFollow "comprehension-iter-twice" false):=by
 apply kr
 kernel_rfl
set_option maxHeartbeats 0 in
theorem wO (w:World):tP ((w.withFollow "special-get-raises" false).withFollow "comprehension-iter-twice" true):=by
 apply kr
 kernel_rfl
set_option maxHeartbeats 0 in
theorem wN (w:World):tP ((w.withFollow "special-get-raises" true).withFollow "comprehension-iter-twice" false):=by
 apply kr
 kernel_rfl
set_option maxHeartbeats 0 in
theorem wM (w:World):tP ((w.withFollow "special-get-raises" true).withFollow "comprehension-iter-twice" true):=by
 apply kr
 kernel_rfl
theorem said03:PySem.Challenge.rw_nm0033_03.wellSaid=true:=by kernel_rfl
section
noncomputable def BO:List String:=Builtin.Bytes.decodersThatHold++["bytearray.__contains__", "bytearray.__mod__", "bytearray.__rmod__", "_struct.pack_into.held", "bytearray.find.held"]
noncomputable def d7:Code→Bool
 | .builtin id _=>!BO.contains id
 | _=>true
def qT (Γ:Ctx):Prop:=∀x∈Γ.below,d7 x.1=true
def Clean (Γ:Ctx):Prop:=d7 Γ.code=true∧qT Γ
theorem Clean.enter (h:Clean Γ) (c:Code) (m:Option Value) (p:Pos):qT (Γ.enter c m p):=fun x hx=>by
 rcases List.mem_cons.mp hx with rfl | hx
 ·exact h.1
 ·exact h.2 x hx
def aS {α:Type} (M:Model) (A:Around) (t:Sem α) (Q:α→Shared→Prop) (E:Value→Shared→Prop) (s:Shared):Prop :=
 ∀Γ p,Γ.In A→Clean Γ→Sem.wp M Γ t (fun a _ s'=>Q a s') (fun e _ s'=>E e s') p s
def cS (M:Model) (A:Around) (c:Code) (R:Result→Shared→Prop) (s:Shared):Prop :=
 ∀Γ p,Γ.code=c→Γ.Below A→qT Γ→wpCode M Γ R p s
section
variable {α β:Type} {M:Model} {A:Around} {E:Value→Shared→Prop} {s:Shared}
theorem bn (h:wpAny M A t Q E s):aS M A t Q E s:=fun Γ p hΓ _=>h Γ p hΓ
theorem xt (h:codeAny M A c R s):cS M A c R s:=fun Γ p hc hΓ _=>h Γ p hc hΓ
theorem ak (h:Q a s):aS M A (pure a) Q E s:=fun _ _ _ _=>h
theorem bb (h:aS M A t Q E s) (hQ:∀a s,Q a s→Q' a s) (hE:∀e s,E e s→E' e s):aS M A t Q' E' s :=
 fun Γ p hΓ hc=>Sem.wp_mono M Γ t (fun a _ s=>hQ a s) (fun e _ s=>hE e s) p s (h Γ p hΓ hc)
theorem ae (h:aS M A m (fun a s'=>aS M A (f a) Q E s') E s):aS M A (m >>= f) Q E s:=fun Γ p hΓ hc=>by
 rw[Sem.wp_bind']
 exact Sem.wp_mono M Γ m (fun _ p' _ k=>k Γ p' hΓ hc) (fun _ _ _ k=>k) p s (h Γ p hΓ hc)
theorem aZ (h:aS M A m P E s) (k:∀a s',P a s'→aS M A (f a) Q E s'):aS M A (m >>= f) Q E s :=
 ae (bb h k fun _ _ x=>x)
theorem eC (h:aS M A m Q (fun e s'=>aS M A (k e) (fun _ s''=>E e s'') E s') s):aS M A (m.onRaise k) Q E s:=fun Γ p hΓ hc=>by
 rw[Sem.wp_onRaise]
 exact Sem.wp_mono M Γ m (fun _ _ _ k=>k) (fun _ p' _ k=>k Γ p' hΓ hc) p s (h Γ p hΓ hc)
theorem fz {m:Sem α} (h:aS M A m (fun a=>Q (.ok a)) (fun e=>Q (.error e)) s):aS M A m.attempt Q E s:=fun Γ p hΓ hc=>by
 rw[Sem.wp_attempt];exact h Γ p hΓ hc
theorem bp {i:Decidable c} (h:¬c) (k:aS M A e Q E s):aS M A (@ite _ c i t e) Q E s:=by rw[if_neg h];exact k
theorem fR {i:Decidable c} (h:c) (k:aS M A t Q E s):aS M A (@ite _ c i t e) Q E s:=by rw[if_pos h];exact k
theorem tS {i:Decidable c} (h:aS M A t Q E s) (k:aS M A e Q E s):aS M A (@ite _ c i t e) Q E s:=by
 by_cases q:c
 ·exact fR q h
 ·exact bp q k
theorem cA (h:m=pure a) (k:aS M A (f a) Q E s):aS M A (m >>= f) Q E s:=by subst h;exact ae (ak k)
theorem fU {i:Decidable c} (h:¬c) (k:wpAny M A e Q E s):wpAny M A (@ite _ c i t e) Q E s:=by rw[if_neg h];exact k
theorem Am {i:Decidable c} (h:c) (k:wpAny M A t Q E s):wpAny M A (@ite _ c i t e) Q E s:=by rw[if_pos h];exact k
theorem BE (h:m=pure a) (k:wpAny M A (f a) Q E s):wpAny M A (m >>= f) Q E s:=wpAny_bind (wpAny_of_eq h k)
theorem aq (h:aS M A m Q E s):aS M A (holding vs m) Q E s:=fun Γ p hΓ hc=>by rw[Sem.wp_holding];exact h Γ p hΓ hc
theorem eB (h:aS M A m Q E s):aS M A (operate vs m) Q E s:=fun Γ p hΓ hc=>by rw[Sem.wp_operate];exact h Γ p hΓ hc
theorem bz (h:Q () s):aS M A (standAt pos) Q E s:=bn (wpAny_standAt h)
theorem jA (h:Q () s):aS M A point Q E s:=bn (wpAny_point h)
theorem cX (h:aS M A f Q E s):aS M A (standAt pos >>= fun _=>f) Q E s:=ae (bz h)
theorem oz (h:aS M A m Q E s):aS M A (m.keep vs) Q E s:=fun Γ p hΓ hc=>by
 rw[Sem.wp_keep];exact h Γ p hΓ hc
theorem jX (h:Q () s):aS M A (release vs ws) Q E s:=fun Γ p hΓ hc=>by rw[Sem.wp_release];exact h
theorem qm (h:cS M A c R s) (hR:∀r s,R r s→R' r s):cS M A c R' s:=fun Γ p hc hΓ cl=>wpCode_mono hR (h Γ p hc hΓ cl)
theorem qX (hc:cS M (A.mark h) c (fun r s'=>match r with | .ok f=>Q f s' | .error e=>E e s') s) (hnb:h≠some byPass:=by intro x;cases x):aS M A (run c h) Q E s :=
 fun Γ p hΓ cl=>by rw[Sem.wp_run];exact hc _ p rfl (hΓ.enter c h p hnb) (cl.enter c h p)
theorem m4 (hc:cS M A c (fun r s'=>match r with | .ok (.ret v)=>Q v s' | .ok _=>False | .error e=>E e s') s):aS M A (runValue c) Q E s :=
 fun Γ p hΓ cl=>by rw[Sem.wp_runValue];exact hc _ p rfl (hΓ.enter c none p (by intro x;cases x)) (cl.enter c none p)
theorem dk (hc:cS M A (.call f ⟨pos,kw⟩) (fun r s'=>match r with | .ok (.ret v)=>Q v s' | .ok _=>False | .error e=>E e s') s):aS M A (call f pos kw) Q E s:=m4 hc
theorem cH (ok:d7 c=true) (h:aS M (A.under c) (M.den c) (fun fin s'=>match fin with | .done f=>R (.ok f) s' | .again c'=>c'.quiet=true∧cS M A c' R s') (fun e s'=>R (.error e) s') s):cS M A c R s:=fun Γ p hc hΓ cl=>by
 rw[wpCode_iff_wp,hc]
 refine Sem.wp_mono M Γ _ (fun fin p' s' k=>?_) (fun _ _ _ k=>k) p s (h Γ p (hc ▸ hΓ.in) ⟨by rw[hc];exact ok,cl⟩)
 cases fin with
 | done f=>exact k
 | again c'=>exact⟨k.1,k.2 (Γ.goto c') p' rfl (hΓ.goto c') cl⟩
theorem pg (ok:d7 c=true) (hq:c.quiet=true) (I:Nat→Shared→Prop)
  (turn:∀n s,I n s→aS M (A.under c) (M.den c) (fun fin s'=>match fin with
    | .done f=>R (.ok f) s'
    | .again c'=>(c'=c∧∃m,m < n∧I m s')∨(c'.quiet=true∧cS M A c' R s')) (fun e s'=>R (.error e) s') s):∀ (n:Nat) (s:Shared),I n s→cS M A c R s:=fun n=>by
 induction n using Nat.strongRecOn with
 | ind n ih =>
  intro s h
  refine cH ok (bb (turn n s h) (fun fin s' k=>?_) fun _ _ x=>x)
  cases fin with
  | done f=>exact k
  | again c' =>
   rcases k with⟨rfl,m,hm,hI⟩ | k
   ·exact⟨hq,ih m hm s' hI⟩
   ·exact k
theorem vi (hf:∀x,d7 x.1=true→f x=false):∀l:List (Code×Pos),(∀x∈l,d7 x.1=true)→l.any f=false
 | [],_=>rfl
 | x::l,h=>by rw[List.any_cons,hf x (h x (List.mem_cons_self ..)),vi hf l fun y hy=>h y (List.mem_cons_of_mem _ hy)];rfl
theorem m5 (h:Q false s):aS M A (Builtin.Bytes.exported v) Q E s:=fun Γ p hΓ cl=>by
 have hall:∀x∈((Γ.code,p)::Γ.below),d7 x.1=true:=fun x hx=>by
  rcases List.mem_cons.mp hx with rfl | hx
  ·exact cl.1
  ·exact cl.2 x hx
 show (fun b=>Q b s) (List.any ((Γ.code,p)::Γ.below) _)
 refine(congrArg (fun b=>Q b s) (vi (fun x hx=>?_) _ hall)).mpr h
 obtain⟨c,q⟩:=x
 cases c
 case builtin id args =>
  have no:∀ {t:String},BO.contains t=true→id≠t:=fun ht e=>by
   subst e
   have:(!BO.contains id)=true:=hx
   rw[ht] at this
   cases this
  delta Builtin.Bytes.exported.match_1
  refine(dif_neg (no (t := "bytearray.__contains__") (by decide))).trans ?_
  refine(dif_neg (no (t := "bytearray.__mod__") (by decide))).trans ?_
  refine(dif_neg (no (t := "bytearray.__rmod__") (by decide))).trans ?_
  refine(dif_neg (no (t := "_struct.pack_into.held") (by decide))).trans ?_
  refine(dif_neg (no (t := "bytearray.find.held") (by decide))).trans ?_
  obtain⟨pos,kw⟩:=args
  cases pos with
  | nil=>rfl
  | cons v t =>
   have hd:Builtin.Bytes.decodersThatHold.contains id=false:=by
    cases e:Builtin.Bytes.decodersThatHold.contains id with
    | false=>rfl
    | true =>
     have:(!BO.contains id)=true:=hx
     have e2:BO.contains id=true:=by
      rw[List.contains_iff_mem] at e ⊢
      exact List.mem_append.mpr (.inl e)
     rw[e2] at this
     cases this
   exact(congrArg (_ && ·) hd).trans (Bool.and_false _)
 all_goals rfl
end
end
section
section
variable {M:Model} {A:Around} {E:Value→Shared→Prop} {s:Shared} {env:Env} {prog:Program} {w:World}
theorem rO (h:aS M A (eval l env) (fun a s₁=>aS M A (eval r env) (fun b s₂=>aS M A (binaryOp op a b) Q E s₂) E s₁) E s):aS M A (eval (.BinOp l op r pos) env) Q E s:=by
 rw[eval_BinOp]
 exact aZ h fun a s₁ k=>aZ (aq k) fun b s₂ k=>cX (eB k)
theorem m8 (h:aS M A (eval l env) (fun a s₁=>aS M A (eval r env) (fun b s₂=>aS M A (compareOp op a b) Q E s₂) E s₁) E s) (hm:behindInMarks op r=false):aS M A (eval (.Compare l [op] [r] pos) env) Q E s:=by
 rw[eval_Compare1,markedBehindIn_of_false hm]
 exact aZ h fun a s₁ k=>aZ (aq k) fun b s₂ k=>cX (eB k)
theorem oA (h:aS M A (eval x env) (fun v s₁=>aS M A (unaryOp op v) Q E s₁) E s):aS M A (eval (.UnaryOp op x pos) env) Q E s:=by
 rw[arm_eval_UnaryOp]
 exact aZ h fun v s₁ k=>cX (aq k)
theorem iD (h:aS M A (eval l env) (fun a s₁=>aS M A (eval r env) (fun b s₂=>aS M A (compareOp op a b) (fun c s₃=>aS M A (truthy c) Q E s₃) E s₂) E s₁) E s) (hm:behindInMarks op r=false) :
  aS M A (isTrue (.Compare l [op] [r] pos) env whole) Q E s:=by
 rw[isTrue_Compare1,markedBehindIn_of_false hm]
 exact aZ h fun a s₁ k=>aZ (aq k) fun b s₂ k=>cX (aZ (eB k) fun c s₃ k=>aq k)
theorem kA (h:aS M A (isTrue x env (eval x env)) (fun b s₁=>Q (!b) s₁) E s):aS M A (isTrue (.UnaryOp .Not x pos) env whole) Q E s:=by
 rw[arm_isTrue_UnaryOp]
 exact aZ h fun b s₁ k=>ak k
theorem jB (h:aS M A whole (fun v s₁=>aS M A (truthy v) Q E s₁) E s) (he:isTrue e env whole=(do let v←whole;standAt e.pos;holding [v] (truthy v))):aS M A (isTrue e env whole) Q E s:=by
 rw[he]
 exact aZ h fun v s₁ k=>cX (aq k)
theorem i7 (h:aS M A (allTrue op es env) Q E s):aS M A (isTrue (.BoolOp op es pos) env whole) Q E s:=by
 rw[arm_isTrue_BoolOp];exact h
theorem iR (h:Q false s):aS M A (allTrue .Or [] env) Q E s:=bn (wpAny_allTrue_Or_nil h)
theorem eE (h:aS M A (isTrue x env (eval x env)) (fun b s₁=>if b then aS M A (allTrue .And rest env) Q E s₁ else Q false s₁) E s):aS M A (allTrue .And (x::rest) env) Q E s:=by
 show aS M A (isTrue x env (eval x env) >>= fun b=>match BoolOp.And,b with | .And,false=>pure false | .Or,true=>pure true | _,_=>allTrue .And rest env) Q E s
 refine aZ h fun b s₁ k=>?_
 cases b
 ·exact ak k
 ·exact k
theorem eO (h:aS M A (isTrue x env (eval x env)) (fun b s₁=>if b then Q true s₁ else aS M A (allTrue .Or rest env) Q E s₁) E s):aS M A (allTrue .Or (x::rest) env) Q E s:=by
 show aS M A (isTrue x env (eval x env) >>= fun b=>match BoolOp.Or,b with | .And,false=>pure false | .Or,true=>pure true | _,_=>allTrue .Or rest env) Q E s
 refine aZ h fun b s₁ k=>?_
 cases b
 ·exact k
 ·exact ak k
theorem mf (h:aS M A (isTrue test env (eval test env)) (fun b s₁=>if b then aS M A (eval body env) Q E s₁ else aS M A (eval orelse env) Q E s₁) E s):aS M A (eval (.IfExp test body orelse pos) env) Q E s:=by
 rw[arm_eval_IfExp]
 refine aZ h fun b s₁ k=>?_
 cases b<;>exact k
theorem lQ (h:Q [] s):aS M A (spliced (backTo pos (starEach [] env))) Q E s:=bn (wpAny_items_nil h)
theorem kz (h:aS M A (eval e env) (fun v s₁=>aS M A (spliced (backTo pos (starEach rest env))) (fun vs s₂=>Q (v::vs) s₂) E s₁) E s)
  (he:starEach (e::rest) env=(false,eval e env)::starEach rest env):aS M A (spliced (backTo pos (starEach (e::rest) env))) Q E s:=by
 rw[he]
 show aS M A (eval e env >>= fun v=>(pure [v]:Sem (List Value)) >>= fun here=>holding here (spliced (backTo pos (starEach rest env))) >>= fun more=>pure (here++more)) Q E s
 exact aZ h fun v s₁ k=>ae (ak (aZ (aq k) fun vs s₂ k=>ak k))
theorem tT (h:aS M A (spliced (backTo pos (starEach elts env))) (fun vs s₁=>vs.length≤sizeLine∧Q (.ref s₁.heap.objs.size) { s₁ with heap:=s₁.heap.push { cls := .type "list",data := .seq vs.toArray } }) E s) :
  aS M A (eval (.List elts pos) env) Q E s:=by
 rw[arm_eval_List]
 exact cX (aZ h fun vs s₁ k=>bn (wpAny_newObj_type k.2 (by show vs.toArray.size≤sizeLine;rw[List.size_toArray];exact k.1)))
theorem rN (h:aS M A (spliced (backTo pos (starEach elts env))) (fun vs s₁=>vs.length≤sizeLine∧Q (.ref s₁.heap.objs.size) { s₁ with heap:=s₁.heap.push { cls := .type "tuple",data := .seq vs.toArray } }) E s) :
  aS M A (eval (.Tuple elts k' pos) env) Q E s:=by
 rw[arm_eval_Tuple]
 exact cX (aZ h fun vs s₁ k=>bn (wpAny_newTuple k.2 k.1))
theorem iF (h:aS M A (eval value env) (fun o s₁=>aS M A (eval slice env) (fun i s₂=>aS M A (subscriptTail value slice o i) Q E s₂) E s₁) E s):aS M A (eval (.Subscript value slice pos) env) Q E s:=by
 rw[eval_Subscript]
 exact aZ h fun o s₁ k=>aZ (aq k) fun i s₂ k=>cX k
theorem lS (h:aS (model prog w) A (eval value env) (fun o s₁=>aS (model prog w) A (getAttr o attr true) Q E s₁) E s)
  (he:eval (.Attribute value attr pos) env=(do
   let o←eval value env
   standAt pos.atName
   let r←holding [o] (getAttr o attr true)
   letTemporaryGo value o r
   pure r)):aS (model prog w) A (eval (.Attribute value attr pos) env) Q E s:=by
 rw[he]
 exact aZ h fun o s₁ k=>cX (aZ (aq k) fun r s₂ k=>ae (bn (wpAny_letTemporaryGo (ak k))))
theorem fJ (h:Q .next s):aS M A (execs [] env) Q E s:=bn (wpAny_execs_nil h)
theorem dj {st rest} (h:aS M A (exec st env) (fun f s'=>match f with | .next=>aS M A (execs rest env) Q E s' | f=>Q f s') E s):aS M A (execs (st::rest) env) Q E s:=by
 rw[execs_cons]
 refine aZ h fun f s' k=>?_
 cases f<;>first | exact k | exact ak k
theorem m7 (h:aS M A (isTrue test env (eval test env)) (fun b s₂=>if b then aS M A (execs body env) Q E s₂ else aS M A (execs orelse env) Q E s₂) E s):aS M A (exec (.If test body orelse pos) env) Q E s:=by
 rw[exec_If]
 refine cX (aZ h fun b s₂ k=>?_)
 cases b<;>exact k
theorem gH (h:aS M A (eval e env) (fun v=>Q (.ret v)) E s):aS M A (exec (.Return (some e) pos) env) Q E s:=by
 rw[exec_Return_some]
 exact cX (aZ h fun v s₂ k=>ak k)
theorem oB (h:aS (model prog w) A (eval e env) (fun _=>Q .next) E s) (hi:interactive env=false) (hs:swapsWith e none pos.line env=pure false):aS (model prog w) A (exec (.Expr e pos) env) Q E s:=by
 rw[exec_Expr env e pos hi hs]
 exact cX (aZ h fun v s₂ k=>bn (wpAny_dropValue k))
theorem iS (h:aS M A (eval value env) (fun v s₁=>aS M A (assignAll v ((assignEach targets env).map (·.2))) (fun _=>Q .next) E s₁) E s)
  (hs:swapsWithSole targets value pos.line env=pure false) (hw:swappedStores targets value env=pure none):aS M A (exec (.Assign targets value pos) env) Q E s:=by
 rw[exec_Assign_arm,hs]
 refine cX (ae (ak ?_))
 rw[if_neg (by decide),hw]
 refine aZ h fun v s₁ k=>ae (ak ?_)
 show aS M A (assignAll v ((assignEach targets env).map (·.2)) >>= fun _=>pure .next) Q E s₁
 exact aZ k fun _ s₂ k=>ak k
end
end
section
section
variable {M:Model} {A:Around} {E:Value→Shared→Prop} {s:Shared} {env:Env} {prog:Program} {w:World} {R:Result→Shared→Prop}
abbrev y8:Value→Shared→Prop:=fun _ _=>False
def jG (M:Model) (A:Around) (env:Env) (E:Value→Shared→Prop):Value→Shared→Prop:=fun x s'=>aS M A (noteFrame x env) (fun _ s''=>E x s'') E s'
def fZ (M:Model) (A:Around) (env:Env) (E:Value→Shared→Prop):Value→Shared→Prop :=
 fun x s'=>aS M A (do
  if (← field x 1) == .none then unsupported "frame.own-activation:exception-without-traceback"
  setFlight x env.frame) (fun _ s''=>E x s'') E s'
theorem ik {m:Sem α} {Q:α→Shared→Prop} (h:aS M A m Q (jG M A env E) s):aS M A (m.onRaise fun x=>do noteFrame x env;theTreesLotGoes x) Q E s :=
 eC (bb h (fun _ _ k=>k) fun x s' k=>aZ k fun _ s'' k=>bn (wpAny_theTreesLotGoes k))
theorem iQ (hc:cS M (A.mark h) c (fun r s'=>match r with | .ok f=>Q f s' | .error e=>fZ M A env E e s') s) (hnb:h≠some byPass:=by intro x;cases x):aS M A (runOwn c env h) Q E s:=by
 unfold runOwn
 exact eC (qX hc hnb)
theorem lc (h:aS (model prog w) (A.deeper env) (execs body env) (fun f s'=>R (.ok (.ret (match f with | .ret v=>v | _ => .none))) s')
   (fun e s'=>aS (model prog w) (A.deeper env) (leaving env e) (fun _ s''=>R (.error e) s'') (fun e' s''=>R (.error e') s'') s') s):cS (model prog w) A (.func body env) R s:=by
 refine cH rfl ?_
 show aS _ (A.deeper env) (do point;match←(execs body env).onRaise (leaving env) with | .ret v=>ret v | _=>ret .none) _ _ s
 refine ae (jA (aZ (eC h) fun f s' k=>?_))
 cases f<;>exact ak k
theorem qn (h:aS (model prog w) (A.deeper env) (eval e env) (fun v s'=>R (.ok (.ret v)) s')
   (fun e' s'=>aS (model prog w) (A.deeper env) (leaving env e') (fun _ s''=>R (.error e') s'') (fun e'' s''=>R (.error e'') s'') s') s):cS (model prog w) A (.expr e env) R s:=by
 refine cH rfl ?_
 show aS _ (A.deeper env) (do point;ret (← (eval e env).onRaise (leaving env))) _ _ s
 exact ae (jA (aZ (eC h) fun v s' k=>ak k))
theorem fN {next:Env→Code} (hroom:A.depth < recursionLimit) (ho:s.heap.get? a=some o) (hd:o.data = .func fd) (hcd:s.heap.CodeRec fd.code fd.qualname)
  (hnext:(∃b,fd.body = .stmts b∧next=fun env => .func b env)∨∃e,fd.body = .expr e∧next=fun env => .expr e env) (hco:fd.scope.isCoroutine=false) (hgen:fd.scope.isGenerator=false)
  (h:aS (model prog w) A.in1 (bindArgs fd args) (fun binds s₁=>aS (model prog w) A.in1 (newFunctionEnv fd.scope fd.globals fd.closure binds (fd.qualname ++ ".<locals>.") (some a) fd.code none fd.builtins)
    (fun env s₂=>s₂.heap.NoLimit∧cS (model prog w) A (next env) R s₂) y8 s₁) y8 s):cS (model prog w) A (.call (.ref a) args) R s:=by
 refine cH rfl ?_
 show aS _ A.in1 (callAny (.ref a) args) _ _ s
 simp only[callAny]
 refine ae (bn (wpAny_load ho ?_))
 (refine jJ hcd fun c oc vs tq hc hoc hdc hq=>?_;clear hcd)
 rw[hc] at h
 rcases hnext with⟨b,hb,rfl⟩ | ⟨b,hb,rfl⟩
 all_goals
  simp only[hd,callFunction,hco,hgen,hb,hc]
  refine ae (m:=field (.ref c) 1) (bn (wpAny_field hoc hdc hq (ae (ak ?_))))
  exact ae (bb h (fun binds s₁ k=>ae (bb k (fun env s₂ k=>ae (bn (wpAny_enterFrame k.1 hroom (ak ⟨rfl,k.2⟩)))) fun _ _ k=>k.elim)) fun _ _ k=>k.elim)
theorem fe (hroom:A.depth < recursionLimit) (ho:s.heap.get? a=some o) (hd:o.data = .func fd) (hlim:s.heap.NoLimit) (hcd:s.heap.CodeRec fd.code fd.qualname)
  (hb:fd.body = .stmts body) (hbind:bindArgs fd args=pure binds) (hcell:∀x∈fd.scope.names,x.2 ≠ .cell) (hloc:∀x∈binds,fd.scope.names.lookup x.1=some .local)
  (h:∀h₀,h₀.Ns s.heap.objs.size (fun x=>binds.reverse.lookup x)→(∀b o,s.heap.get? b=some o→h₀.get? b=some o) →
   aS (model prog w) (A.deeper (callEnv fd s.heap.objs.size a)) (execs body (callEnv fd s.heap.objs.size a)) (fun f s'=>R (.ok (.ret (match f with | .ret v=>v | _ => .none))) s')
    (fun e s'=>aS (model prog w) (A.deeper (callEnv fd s.heap.objs.size a)) (leaving (callEnv fd s.heap.objs.size a) e) (fun _ s''=>R (.error e) s'') (fun e' s''=>R (.error e') s'') s')
    { s with heap:=h₀,toks:=s.toks+binds.length }) (hco:fd.scope.isCoroutine=false) (hgen:fd.scope.isGenerator=false) (hk:fd.scope.kind = .function):cS (model prog w) A (.call (.ref a) args) R s:=by
 refine fN hroom ho hd hcd (.inl ⟨body,hb,rfl⟩) hco hgen ?_
 rw[hbind]
 refine ak (bn (wpAny_newFunctionEnv hcell hloc (fun h₀ hns hsb=>⟨hlim.fresh _ hsb,lc (h h₀ hns fun b o e=>?_)⟩) hk))
 exact hsb.extBut b o (Nat.ne_of_lt (Heap.lt_size e)) (Heap.get?_push_of_some _ e)
theorem jM (hroom:A.depth < recursionLimit) (ho:s.heap.get? a=some o) (hd:o.data = .func fd) (hlim:s.heap.NoLimit) (hcd:s.heap.CodeRec fd.code fd.qualname)
  (hb:fd.body = .stmts body) (hbind:bindArgs fd ⟨vals,[]⟩=pure binds) (hclo:fd.closure=[])
  (hkind:∀x∈binds,fd.scope.names.lookup x.1=some .local∨(fd.scope.names.lookup x.1=some .cell∧((cellsFrom (s.heap.objs.size+1) fd.scope.names []).lookup x.1).isSome=true))
  (h:∀s₁,InCallC s (callEnvC fd s.heap.objs.size a).locals (bindL (callEnvC fd s.heap.objs.size a).kindOf binds fun _=>none) (callEnvC fd s.heap.objs.size a).cells
    (bindC (callEnvC fd s.heap.objs.size a).kindOf binds fun _=>none) s₁ →
   aS (model prog w) (A.deeper (callEnvC fd s.heap.objs.size a)) (execs body (callEnvC fd s.heap.objs.size a)) (fun f s'=>R (.ok (.ret (match f with | .ret v=>v | _ => .none))) s')
    (fun e s'=>aS (model prog w) (A.deeper (callEnvC fd s.heap.objs.size a)) (leaving (callEnvC fd s.heap.objs.size a) e) (fun _ s''=>R (.error e) s'') (fun e' s''=>R (.error e') s'') s') s₁)
  (hco:fd.scope.isCoroutine=false) (hgen:fd.scope.isGenerator=false) (hk:fd.scope.kind = .function):cS (model prog w) A (.call (.ref a) ⟨vals,[]⟩) R s:=by
 refine fN hroom ho hd hcd (.inl ⟨body,hb,rfl⟩) hco hgen ?_
 rw[hbind,hclo]
 refine ak (bn (wpAny_newFunctionEnv_cells hk hkind fun env he s' x=>?_))
 subst he
 exact⟨hlim.keeps x.toInCall.keep,lc (h s' x)⟩
theorem qZ
  (h:aS M A (eval iter env) (fun x s₁=>aS M A (pyIter x) (fun it s₂=>cS M A (.forLoop target it body orelse env) (fun r s'=>match r with | .ok f=>Q f s' | .error e=>fZ M A env E e s') s₂) E s₁) E s)
  (hs:∀x,foldedSetIterable iter env x=pure x):aS M A (exec (.For target iter body orelse pos) env) Q E s:=by
 rw[exec_For]
 refine cX (aZ h fun x s₁ k=>?_)
 rw[hs x]
 exact ae (ak (cX (aZ (aq k) fun it s₂ k=>iQ k)))
theorem l0 (I:Nat→Shared→Prop)
  (turn:∀n s,I n s→aS (model prog w) A (pyNext it) (fun r s₁=>match r with
   | none=>R (.ok .next) s₁
   | some v=>aS (model prog w) A (letOwnedTupleGo target it v) (fun _ s₁'=>aS (model prog w) A (assign target env v) (fun _ s₂=>aS (model prog w) A (execs body env) (fun f s₃=>match f with
     | .next | .cont=>∃m,m < n∧I m s₃
     | .brk=>R (.ok .next) s₃
     | .ret v=>R (.ok (.ret v)) s₃) (jG (model prog w) A env fun e s'=>R (.error e) s') s₂) (jG (model prog w) A env fun e s'=>R (.error e) s') s₁') (jG (model prog w) A env fun e s'=>R (.error e) s') s₁) (jG (model prog w) A env fun e s'=>R (.error e) s') s)
  (n:Nat) (h:I n s):cS (model prog w) A (.forLoop target it body [] env) R s:=by
 refine pg rfl rfl I (fun n s hI=>?_) n s h
 show aS _ _ ((forTurn target it body [] env).onRaise (fun x=>do noteFrame x env;theTreesLotGoes x)) _ _ s
 refine ik ?_
 simp only[forTurn]
 refine cX (aZ (eC (bb (turn n s hI) (fun _ _ k=>k) fun _ _ k=>bz k)) fun r s₁ k=>?_)
 cases r with
 | none=>exact ak (.inr ⟨rfl,cH rfl (by
   show aS _ _ (do return Fin.done (← (execs [] env).onRaise (fun x=>do noteFrame x env;theTreesLotGoes x))) _ _ s₁
   exact ae (ik (fJ (ak k))))⟩)
 | some v =>
  show aS _ _ (letOwnedTupleGo target it v >>= fun _=>_) _ _ s₁
  refine aZ k fun _ s₁' k=>aZ k fun _ s₂ k=>aZ k fun f s₃ k=>?_
  cases f with
  | next=>exact ak (.inl ⟨rfl,k⟩)
  | cont=>exact ak (.inl ⟨rfl,k⟩)
  | brk=>exact ak k
  | ret v=>exact ak k
theorem eR (h:aS M A (storeName env x v) Q E s):aS M A (bindName env x v) Q E s:=fun Γ p hΓ hc=>by rw[Sem.wp_bindName];exact h Γ p hΓ hc
theorem qY
  (h:aS (model prog w) A (execs body env) (fun f s₁=>Q f s₁)
   (fun e s₁=>aS (model prog w) A (noteFrame e env) (fun _ s₂=>aS (model prog w) A (setFlight e none) (fun _ s₃=>aS (model prog w) A (handleBy e env (h₀::hs)) Q E s₃) E s₂) E s₁) s) :
  aS (model prog w) A (exec (.Try body (h₀::hs) [] [] pos) env) Q E s:=by
 rw[arm_exec_Try]
 refine cX ?_
 unfold tryStmt
 simp only[List.isEmpty_nil,if_true,List.isEmpty_cons,Bool.false_and,Bool.false_eq_true,if_false]
 refine ae (fz (bb h (fun f s₁ k=>?_) fun e s₁ k=>?_))
 ·cases f<;>first | exact fJ k | exact ak k
 ·exact aZ k fun _ s₂ k=>ae k
theorem lR (hnb:e≠byPass)
  (h:aS (model prog w) (A.mark (some e)) (eval t env) (fun c s₁=>aS (model prog w) (A.mark (some e)) (excMatches e c) (fun b s₂=>b=true∧aS (model prog w) (A.mark (some e)) (setFlight e none) (fun _ s₃ =>
    aS (model prog w) (A.mark (some e)) (storeName env n e) (fun _ s₄=>aS (model prog w) (A.mark (some e)) (execs (b₀::suite) env)
     (fun f s₅=>aS (model prog w) A (do bindName env n .none;unbindBehindTheSuite env n pos) (fun _ s₆=>Q f s₆) E s₅) y8 s₄) y8 s₃) y8 s₂) y8 s₁) y8 s) :
  aS (model prog w) A (handleBy e env [.ExceptHandler (some t) (some n) (b₀::suite) pos]) Q E s:=by
 rw[handleBy]
 have hnb':(some e:Option Value)≠some byPass:=fun x=>hnb (Option.some.inj x)
 refine ae (aq (iQ (cH rfl ?_) hnb'))
 show aS _ (A.mark (some e)) (do return Fin.done (← (handleWith e env [.ExceptHandler (some t) none [] pos]).onRaise (fun x=>do noteFrame x env;theTreesLotGoes x))) _ _ s
 refine ae (ik ?_)
 unfold handleWith
 refine cX (ae (bb h (fun c s₁ k=>cX (ae (bb k (fun b s₂ k=>?_) fun _ _ k=>k.elim))) fun _ _ k=>k.elim))
 obtain⟨rfl,k⟩:=k
 refine ak (ak ?_)
 refine ae (ak ?_)
 simp only[Bool.not_true,Bool.false_eq_true,if_false]
 refine ae (aq (iQ (cH rfl ?_) hnb'))
 show aS _ (A.mark (some e)) (do return Fin.done (← (handleWith e env [.ExceptHandler none (some n) (b₀::suite) pos]).onRaise (fun x=>do noteFrame x env;theTreesLotGoes x))) _ _ s₂
 refine ae (ik ?_)
 unfold handleWith
 refine cX (ae (bb k (fun _ s₃ k=>?_) fun _ _ k=>k.elim))
 refine ae (eR (bb k (fun _ s₄ k=>?_) fun _ _ k=>k.elim))
 refine ae (fz (bb k (fun f s₅ k=>ak (ak ?_)) fun _ _ k=>k.elim))
 exact aZ (aq k) fun _ s₆ k=>ak k
end
end
section
section
variable {A:Around} {E:Value→Shared→Prop} {s:Shared} {env:Env} {prog:Program} {w:World} {R:Result→Shared→Prop}
theorem iO {id:String} (ok:d7 (.builtin id args)=true) (hb:entryFor table id=some b)
  (k:aS (model prog w) (A.under (.builtin id args)) (b args) (fun fin s'=>match fin with | .done f=>R (.ok f) s' | .again c'=>c'.quiet=true∧cS (model prog w) A c' R s') (fun e s'=>R (.error e) s') s):cS (model prog w) A (.builtin id args) R s:=by
 refine cH ok ?_
 show aS _ _ (match entryFor table id with | some b=>b args | none=>unsupported ((withoutEnding? id "#data").getD id)) _ _ s
 rw[hb];exact k
theorem dT {id:String} (ok:d7 (.builtin id args)=true) (hq:(Code.builtin id args).quiet=true) (hb:entryFor table id=some b)
  (h:aS (model prog w) A.in1 (checkBuiltinCall id args) (fun _ s₁=>aS (model prog w) (A.under (.builtin id args)) (b args)
   (fun fin s'=>match fin with | .done f=>R (.ok f) s' | .again c'=>c'.quiet=true∧cS (model prog w) A c' R s') (fun e s'=>R (.error e) s') s₁) (fun e s'=>R (.error e) s') s):cS (model prog w) A (.call (.builtin id) args) R s:=by
 refine cH rfl ?_
 show aS _ A.in1 (do checkBuiltinCall id args;again (.builtin id args)) _ _ s
 exact aZ h fun _ s₁ k=>ak ⟨hq,iO ok hb k⟩
end
section
open Builtin
variable {prog:Program} {w:World} {A:Around} {E:Value→Shared→Prop} {h:Heap} {g:Array GenState} {d:Drawn} {t:Nat} {os:OsState}
variable {nm q:Str} {C N:Addr} {bs bm:List Value} {sn:List Str} {sub:List Value} {ab hdct:Bool} {col:Option Bool} {dd:Option Addr} {k0 k1 k2 k3 k5:Option Value} {newId initId B:String}
theorem i8 (hC:h.get? C=some (excClassObj nm q C N bs bm hdct sn sub ab col dd k0 k1 k2 k3 k5 newId))
  (hq:aS (model prog w) (A.under (.builtin "type.__call__" ⟨.ref C::rest,[]⟩)) (Builtin.«type.__call__» ⟨.ref C::rest,[]⟩) (fun fin s'=>match fin with | .done f=>(match f with | .ret v=>Q v s' | _=>False) | .again c'=>False) E ⟨h,g,d,t,os⟩) :
  aS (model prog w) A (call (.ref C) rest) Q E ⟨h,g,d,t,os⟩:=by
 have f1:=tc_lookup
 have f2:=tc_bind (.ref C)
 have hT:(⟨h,g,d,t,os⟩:Shared).TypeIs (.ref C) "type" := ⟨_,hC,rfl⟩
 refine dk (cH rfl (bn ?_))
 show wpAny _ _ (callAny (.ref C) _) _ _ _
 repeat (any_goals (first | assumption | with_reducible refine wpAny_loadPart_at hC ?_ | wp_step))
 refine⟨rfl,?_⟩
 refine dT rfl (Code.quiet_builtin _ (by decide +kernel)) entry_typeCall (bn (wpAny_check_type_call_sub hC (bb hq (fun fin s' k=>?_) fun _ _ x=>x)))
 cases fin with
 | done f=>cases f<;>first | exact k | exact k.elim
 | again c=>exact k.elim
theorem rp (hf:s.heap.get? f=some o) (hc:o.cls = .type "function") (hq:Q (.ref f,[v]) s):wpAny (model prog w) A (bindSpecial (.ref f) v) Q E s:=by
 unfold bindSpecial
 refine wpAny_bind (wpAny_typeOf (T := "function") ⟨_,hf,hc⟩ ?_)
 rw[if_pos (by decide)]
 exact wpAny_pure hq
theorem i6 (F:ObjNewFacts newId)
  (hC:h.get? C=some (excClassObj nm q C N bs [.type "object"] true sn sub false col dd k0 k1 k2 k3 k5 newId)) (hn:h.Ns N mN) (hi:mN "__init__" = some (.ref fI))
  (hfI:h.get? fI=some oI) (hfc:oI.cls = .type "function")
  (hq:∀h' x dx,Heap.MadeObj h h' x dx C→aS (model prog w) (A.under (.builtin "type.__call__" ⟨.ref C::rest,[]⟩)) (call (.ref fI) (.ref x::rest)) (fun r s'=>r = .none∧Q (.ref x) s') E ⟨h',g,d,t,os⟩) :
  aS (model prog w) A (call (.ref C) rest) Q E ⟨h,g,d,t,os⟩:=by
 refine i8 hC ?_
 have hmro:mroOf (.type "object")=pure [.type "object"]:=by kernel_rfl
 have hlk:typeLookup (.type "object") "__init__" = pure (some (.builtin "object.__init__")):=by rw[typeLookup_type,builtinLookup_eq_fast];kernel_rfl
 have hid:=F.isIt
 unfold Builtin.«type.__call__»
 simp only[show (Value.ref C==Value.type "type")=false from rfl,Bool.false_eq_true,if_false]
 refine ae (bn (wpAny_mroOf_exc hC ?_))
 simp only[List.isEmpty_cons,Bool.false_eq_true,if_false]
 refine ae (bn (wpAny_madeBy_exc hC ?_))
 dsimp only
 refine ae (ak (ae (aq ?_)))
 refine bn (wpAny_call (codeAny_call_builtin_code (Code.quiet_builtin _ F.quiet) (wpAny_check_obj_new F hC (codeAny_obj_new F hC hn hi ?_))))
 dsimp only
 have hC₁:=Heap.get?_push_of_some { cls := .ref C,dict:=some h.objs.size,data := .plain } (Heap.get?_push_of_some { cls := .type "dict",data := .dict #[] } hC)
 have hfI₁:=Heap.get?_push_of_some { cls := .ref C,dict:=some h.objs.size,data := .plain } (Heap.get?_push_of_some { cls := .type "dict",data := .dict #[] } hfI)
 have hn₁:((h.push { cls := .type "dict",data := .dict #[] }).push { cls := .ref C,dict:=some h.objs.size,data := .plain }).Ns N mN :=
  hn.keeps fun _ _ e=>Heap.get?_push_of_some _ (Heap.get?_push_of_some _ e)
 have hget:((h.push { cls := .type "dict",data := .dict #[] }).push { cls := .ref C,dict:=some h.objs.size,data := .plain }).get? (h.objs.size+1)=some { cls := .ref C,dict:=some h.objs.size,data := .plain }:=Heap.get?_push_at (by rw[Heap.size_push]) rfl
 have hgd:((h.push { cls := .type "dict",data := .dict #[] }).push { cls := .ref C,dict:=some h.objs.size,data := .plain }).get? h.objs.size=some { cls := .type "dict",data := .dict #[] } :=
  Heap.get?_push_of_some _ (Heap.get?_push_at rfl rfl)
 have hcC:(Value.ref C::[Value.type "object"]).contains (.ref C)=true:=by simp
 have made:Heap.MadeObj h _ (h.objs.size+1) h.objs.size C:=⟨fun b o hb=>Heap.get?_push_of_some _ (Heap.get?_push_of_some _ hb),Heap.get?_none_of_le (Nat.le_succ _),Heap.get?_none_of_le (Nat.le_refl _),
  ⟨_,hget,rfl,fun c=>by simp,.inr ⟨h.objs.size,rfl,Nat.ne_of_lt (Nat.lt_succ_self _),Heap.Ns1.of_empty ⟨_,#[],_,hgd,rfl,fun e he=>absurd he (by simp),fun _=>rfl⟩⟩⟩,
  fun o ho=>by obtain rfl:=Option.some.inj (hget.symm.trans ho);rfl,by simp only[Heap.size_push];lia⟩
 have inst:∀ {A':Around} {E':Value→Shared→Prop} {Q':Bool→Shared→Prop},Q' true ⟨(h.push { cls := .type "dict",data := .dict #[] }).push { cls := .ref C,dict:=some h.objs.size,data := .plain },g,d,t,os⟩ →
   wpAny (model prog w) A' (isInstance (.ref (h.objs.size+1)) (.ref C)) Q' E' ⟨(h.push { cls := .type "dict",data := .dict #[] }).push { cls := .ref C,dict:=some h.objs.size,data := .plain },g,d,t,os⟩:=fun hq'=>by
  unfold isInstance
  repeat (first | with_reducible refine wpAny_loadPart_at hget ?_ | (with_reducible refine wpAny_isSubtype_exc hC₁ ?_;rw[hcC]) | wp_step)
  exact hq'
 refine ae (bn (inst ?_))
 simp only[Bool.not_true,Bool.false_eq_true,if_false]
 refine ae (aq ?_)
 unfold callSpecial? specialOf
 refine ae (bn (wpAny_bind (wpAny_typeOf_ref hget (wpAny_typeLookup_exc hC₁ hn₁ hmro hlk ?_))))
 rw[hi]
 refine aq (ae (bn (rp hfI₁ hfc ?_)))
 refine ae (bb (hq _ _ _ made) (fun r s' k=>?_) fun _ _ x=>x)
 obtain⟨rfl,k⟩:=k
 exact ak (ak k)
theorem m6 (F:ExcBaseFacts B newId initId bm)
  (hC:h.get? C=some (excClassObj nm q C N bs bm hdct sn sub ab col dd k0 k1 k2 k3 k5 newId)) (hn:h.Ns N mN) (hi:mN "__init__" = some (.ref fI))
  (hfI:h.get? fI=some oI) (hfc:oI.cls = .type "function")
  (hq:∀h' e,Heap.MadeExcOf h h' e (.ref C) rest→aS (model prog w) (A.under (.builtin "type.__call__" ⟨.ref C::rest,[]⟩)) (call (.ref fI) (.ref e::rest)) (fun r s'=>r = .none∧Q (.ref e) s') E ⟨h',g,d,t,os⟩) (hrest:rest.length≤sizeLine) :
  aS (model prog w) A (call (.ref C) rest) Q E ⟨h,g,d,t,os⟩:=by
 refine i8 hC ?_
 unfold Builtin.«type.__call__»
 simp only[show (Value.ref C==Value.type "type")=false from rfl,Bool.false_eq_true,if_false]
 refine ae (bn (wpAny_mroOf_exc hC ?_))
 simp only[List.isEmpty_cons,Bool.false_eq_true,if_false]
 refine ae (bn (wpAny_madeBy_exc hC ?_))
 dsimp only
 refine ae (ak (ae (aq ?_)))
 refine bn (wpAny_call (codeAny_call_builtin_code (Code.quiet_builtin _ F.quiet) (wpAny_check_new_sub F hC (codeAny_exc_new_sub F hC ?_ hrest))))
 dsimp only
 let ob:Obj:={ cls := .ref C,data := .fields #[.ref h.objs.size,.none,.none,.none,.bool false,.none] }
 have up:∀b o,h.get? b=some o→((h.push { cls := .type "tuple",data := .seq rest.toArray }).push ob).get? b=some o:=fun b o e=>Heap.get?_push_of_some _ (Heap.get?_push_of_some _ e)
 have hC₁:=up _ _ hC
 have hfI₁:=up _ _ hfI
 have hn₁:((h.push { cls := .type "tuple",data := .seq rest.toArray }).push ob).Ns N mN:=hn.keeps up
 have hget:((h.push { cls := .type "tuple",data := .seq rest.toArray }).push ob).get? (h.objs.size+1)=some ob:=Heap.get?_push_at (by rw[Heap.size_push]) rfl
 have hcC:(Value.ref C::bm).contains (.ref C)=true:=by simp
 have made:Heap.MadeExcOf h ((h.push { cls := .type "tuple",data := .seq rest.toArray }).push ob) (h.objs.size+1) (.ref C) rest :=
  ⟨up,Heap.get?_none_of_le (Nat.le_succ _),h.objs.size,hget,Heap.get?_none_of_le (Nat.le_refl _),Heap.get?_push_of_some _ (Heap.get?_push_at rfl rfl)⟩
 have inst:∀ {A':Around} {E':Value→Shared→Prop} {Q':Bool→Shared→Prop},Q' true ⟨(h.push { cls := .type "tuple",data := .seq rest.toArray }).push ob,g,d,t,os⟩ →
   wpAny (model prog w) A' (isInstance (.ref (h.objs.size+1)) (.ref C)) Q' E' ⟨(h.push { cls := .type "tuple",data := .seq rest.toArray }).push ob,g,d,t,os⟩:=fun hq'=>by
  unfold isInstance
  repeat (first | with_reducible refine wpAny_loadPart_at hget ?_ | (with_reducible refine wpAny_isSubtype_exc hC₁ ?_;rw[hcC]) | wp_step)
  exact hq'
 refine ae (bn (inst ?_))
 simp only[Bool.not_true,Bool.false_eq_true,if_false]
 refine ae (aq ?_)
 unfold callSpecial? specialOf
 refine ae (bn (wpAny_bind (wpAny_typeOf_ref hget (wpAny_typeLookup_exc hC₁ hn₁ F.mroIs F.init.lookup ?_))))
 rw[hi]
 refine aq (ae (bn (rp hfI₁ hfc ?_)))
 refine ae (bb (hq _ _ made) (fun r s' k=>?_) fun _ _ x=>x)
 obtain⟨rfl,k⟩:=k
 exact ak (ak k)
end
end
section
namespace By
theorem mro:mroOf (.type "bytearray")=pure [.type "bytearray",.type "object"]:=by rw[mroOf_type];kernel_rfl
theorem pX:typeLookup (.type "bytearray") "__new__" = pure (some (.builtin "bytearray.__new__")):=by rw[typeLookup_type,builtinLookup_eq_fast];kernel_rfl
theorem rV:Slot "bytearray" "__init__" "bytearray.__init__" :=
 .of (owner := "bytearray") (n := "__init__") (by rw[typeLookup_type,builtinLookup_eq_fast];kernel_rfl) (by decide +kernel) (by decide +kernel) (by decide +kernel)
  (by first | exact .inl (by decide +kernel) | exact .inr (by decide +kernel)) (by rw[isSubtype_type];kernel_rfl)
theorem nQ:TypeCalled "bytearray" "bytearray.__new__" "bytearray.__init__" :=
 ⟨by decide +kernel,by decide +kernel,⟨_,_,mro⟩,madeBy_type mro pX (by decide +kernel),by decide +kernel,by rw[isSubtype_type];kernel_rfl,rV⟩
theorem gh:entryFor table "bytearray.__init__" = some Builtin.«bytearray.__init__»:=by first | exact entryFor_of_fast (by kernel_rfl) | exact entryFor_of_tree (by kernel_rfl)
theorem sE:entryFor table "bytearray.__new__" = some Builtin.«list.__new__» :=
 entryFor_alias (id' := "list.__new__") (by rw[fastTable_eq_tree];kernel_rfl) (by first | decide +kernel | kernel_rfl) (by first | decide +kernel | kernel_rfl) (by rw[fastTable_eq_tree];kernel_rfl)
theorem mw:plainId "bytearray.__new__" = true:=by decide +kernel
theorem xg (as:List Value):checkBuiltinCall "bytearray.__new__" ⟨.type "bytearray" :: as,[]⟩=pure ():=by kernel_rfl
theorem rS:checkTypeCall "bytearray" ⟨[],[]⟩=pure ():=by kernel_rfl
theorem jD (a:Value):checkTypeCall "bytearray" ⟨[a],[]⟩=pure ():=by kernel_rfl
theorem sub_self:isSubtype (.type "bytearray") (.type "bytearray")=pure true:=by rw[isSubtype_type];kernel_rfl
set_option maxRecDepth 1000000 in
set_option maxHeartbeats 4000000 in
theorem sb:("bytearray.__new__".splitOn ".__new__").headD "" = "bytearray" := by simp +decide [String.splitOn,String.splitOnAux]
section
variable {prog:Program} {w:World} {A:Around} {E:Value→Shared→Prop} {s:Shared}
theorem jq (as:List Value) (h:Q₁ (.ref s.heap.objs.size) { s with heap:=s.heap.push { cls := .type "bytearray",data := .bytearray #[] } }) :
  codeAny (model prog w) A (.call (.builtin "bytearray.__new__") ⟨.type "bytearray" :: as,[]⟩) (wants Q₁ E) s:=by
 refine codeAny_of_tree ?_
 show wpAny _ A.in1 (do checkBuiltinCall "bytearray.__new__" ⟨.type "bytearray" :: as,[]⟩;again (.builtin "bytearray.__new__" ⟨.type "bytearray" :: as,[]⟩)) _ _ s
 refine wpAny_bind (wpAny_of_eq (xg as) (wpAny_pure ⟨plainId_quiet mw _,codeAny_builtin_stack sE rfl fun p st=>?_⟩))
 rw[Around.under_plainId mw _]
 have hsub:=sub_self
 have hown:=sb
 obtain⟨hp,g,d,tk,os⟩:=s
 simp only[hown]
 wp_walk
 exact h
set_option maxHeartbeats 1000000 in
theorem ez (ft:TypeCalled T newId initId) (hct:checkTypeCall T ⟨args,[]⟩=pure ()) (entryI:entryFor table initId=some Bi) (okI:∀a,d7 (.builtin initId a)=true)
  (hnew:codeAny (model prog w) A.in1 (.call (.builtin newId) ⟨.type T::args,[]⟩) (wants (fun obj s₁=>s₁.TypeIs obj T∧argsOk initId ⟨obj::args,[]⟩∧aS (model prog w) A.in1.in1 (Bi ⟨obj::args,[]⟩) (fun fin s'=>fin = .done (.ret .none)∧Q obj s') E s₁) E) s) :
  aS (model prog w) A (call (.type T) args) Q E s:=by
 obtain⟨c,tl,hmro⟩:=ft.mro
 have hmade:=ft.made
 have hsub:=ft.sub
 refine dk (cH rfl ?_)
 show aS _ _ (callAny (.type T) _) _ _ _
 refine ak ⟨Code.quiet_builtin _ (by decide +kernel),iO rfl F.entry_type_call ?_⟩
 rw[Around.under_plain (weight_type_call_type T args []) rfl]
 refine bp (by rw[ft.notType];exact Bool.false_ne_true) ?_
 refine bp (by rw[ft.canCreate];exact Bool.false_ne_true) ?_
 refine cA hct (cA hmro (bp Bool.false_ne_true (cA hmade ?_)))
 refine ae (ak (ae (aq ?_)))
 refine bn (wpAny_call (codeAny_mono hnew fun r s₁ hr=>?_))
 cases r with
 | error e=>exact hr
 | ok fl =>
  cases fl with
  | ret obj =>
   obtain⟨hT,hok,hsi⟩:=hr
   refine ae (bn (wpAny_isInstance hT hsub (bp Bool.false_ne_true (ae (aq (ae (bn (wpAny_specialOf hT ft.init.lookup (aq (cA (ft.init.bind obj) ?_))))))))))
   refine ae (dk (dT (okI _) (plainId_quiet ft.init.plain _) entryI (bn (ft.init.check _ _ _ _ _ _ _ _ hT hok ?_))))
   rw[Around.under_plainId ft.init.plain _]
   refine bb hsi (fun fin s' k=>?_) fun _ _ x=>x
   obtain⟨rfl,k⟩:=k
   exact ak (ak k)
  | _=>exact hr.elim
noncomputable abbrev ba (b:Array UInt8):Obj:={ cls := .type "bytearray",data := .bytearray b }
theorem typeIs (h:s.heap.get? a=some (ba b)):s.TypeIs (.ref a) "bytearray" := ⟨_,h,rfl⟩
theorem dR (h:s.heap.get? a=some (ba b)) (hq:Q b s):wpAny M A (Builtin.Bytes.payload (.ref a)) Q E s:=by
 unfold Builtin.Bytes.payload Builtin.Bytes.payload?
 exact wpAny_bind (wpAny_bind (wpAny_load h (wpAny_pure (wpAny_pure hq))))
theorem dI (h:s.heap.get? a=some (ba b)) (hz:(f b).size≤sizeLine)
  (hq:∀h',h'.get? a=some (ba (f b))→(∀x o,x≠a→s.heap.get? x=some o→h'.get? x=some o)→Q () { s with heap:=h' }):wpAny M A (Builtin.Bytes.write (.ref a) f) Q E s:=by
 show wpAny M A (updateBytearray a f) Q E s
 unfold updateBytearray
 refine wpAny_bind (wpAny_load h ?_)
 show wpAny _ _ (update a (Obj.mapBytearray f) >>= fun _=>lookBehind a) _ _ _
 have hg:(s.heap.update a (Obj.mapBytearray f)).get? a=some (ba (f b)):=Heap.get?_update_self (Obj.mapBytearray f) h rfl
 refine wpAny_bind (wpAny_update h (wpAny_lookBehind hg ?_ (hq _ hg fun x o hx e=>(Heap.get?_update_other _ _ (Ne.symm hx)).trans e)))
 show (if (f b).size > sizeLine then some "bytearray:memory" else none)=none
 rw[if_neg (Nat.not_lt.mpr hz)]
theorem qe (h:s.heap.get? a=some (ba b)) (hq:Q 0 s):wpAny M A (Builtin.Bytes.exportsOf (.ref a)) Q E s:=by
 unfold Builtin.Bytes.exportsOf
 exact wpAny_bind (wpAny_load h (wpAny_pure hq))
theorem kP:typeLookup (.type "bytearray") "__release_buffer__" = pure (some (.builtin "bytearray.__release_buffer__")):=by rw[typeLookup_type,builtinLookup_eq_fast];kernel_rfl
theorem dJ (h:s.heap.get? a=some (ba b)) (hq:Q false s):wpAny (model prog w) A (Builtin.Bytes.ownRelease (.ref a)) Q E s:=by
 unfold Builtin.Bytes.ownRelease Builtin.Bytes.slotIsOwn
 refine wpAny_bind (wpAny_bind (wpAny_specialOf (typeIs h) kP ?_))
 dsimp only
 rw[if_neg (by decide +kernel)]
 rw[show ("bytearray.__release_buffer__".dropRight ("__release_buffer__".length+1)) = "bytearray" by decide +kernel]
 exact wpAny_isInstance (typeIs h) sub_self (wpAny_pure hq)
theorem jh:typeLookup (.type "int") "__index__" = pure (some (.builtin "int.__index__")):=by rw[typeLookup_type,builtinLookup_eq_fast];kernel_rfl
theorem Bh:Builtin.Bytes.bindOptional "bytearray.__init__" "bytearray" ["source", "encoding", "errors"] [] []=pure [none,none,none]:=by kernel_rfl
theorem vd (v:Value):Builtin.Bytes.bindOptional "bytearray.__init__" "bytearray" ["source", "encoding", "errors"] [v] []=pure [some v,none,none]:=by kernel_rfl
theorem Bl (a:Value):argsOk "bytearray.__init__" ⟨[a],[]⟩:=by unfold argsOk;kernel_rfl
theorem vh (a v:Value):argsOk "bytearray.__init__" ⟨[a,v],[]⟩:=by unfold argsOk;kernel_rfl
theorem eG (h:s.heap.get? a=some (ba b)) (hq:Q false s) :
  aS (model prog w) A (Builtin.Bytes.exported (.ref a) <||> do return (← Builtin.Bytes.exportsOf (.ref a)) > 0) Q E s:=by
 unfold orM
 refine ae (m5 ?_)
 exact ae (bn (qe h (ak hq)))
theorem AR (h:s.heap.get? a=some (ba #[])) (hq:∀h',h'.get? a=some (ba #[])→(∀x o,x≠a→s.heap.get? x=some o→h'.get? x=some o)→Q (.done (.ret .none)) { s with heap:=h' }) :
  aS (model prog w) A (Builtin.«bytearray.__init__» ⟨[.ref a],[]⟩) Q E s:=by
 refine ae (bn (dJ h (bp Bool.false_ne_true (cA Bh (cA (a:=()) rfl (cA (a:=()) rfl (ae (eG h (bp Bool.false_ne_true (ae (bn (dI (f:=fun _=>#[]) h (by decide) fun h' e k=>?_))))))))))))
 exact ae (bp Bool.false_ne_true (bp Bool.false_ne_true (ak (ak (hq h' e k)))))
theorem uN (h:s.heap.get? a=some (ba #[])) (h0:0≤n) (h1:n.toNat≤sizeLine)
  (hq:∀h',h'.get? a=some (ba (Array.replicate n.toNat 0))→(∀x o,x≠a→s.heap.get? x=some o→h'.get? x=some o)→Q (.done (.ret .none)) { s with heap:=h' }) :
  aS (model prog w) A (Builtin.«bytearray.__init__» ⟨[.ref a,.int n t],[]⟩) Q E s:=by
 refine ae (bn (dJ h (bp Bool.false_ne_true (cA (vd _) (cA (a:=()) rfl (cA (a:=()) rfl (ae (eG h (bp Bool.false_ne_true (ae (bn (dI (f:=fun _=>#[]) h (by decide) fun h' e k=>?_))))))))))))
 have hb:n.toNat≤16777216:=by rw[sizeLine_eq] at h1;exact h1
 have hb2:n≤16777216:=Int.toNat_le.mp hb
 refine cA (a:=none) rfl (bp Bool.false_ne_true (ae (bp Bool.false_ne_true (bp Bool.false_ne_true (ak (ae (bn (wpAny_specialOf (typeIs_int _ _ _) jh (fR rfl (ae (fz (bn (wpAny_of_eq (a:=n) rfl ?_)))))))))))))
 refine bp (by unfold Builtin.Bytes.fitsIndex;simp;exact⟨Int.le_trans (by decide) h0,Int.lt_of_le_of_lt hb2 (by decide)⟩) (bp (Int.not_lt.mpr h0) (bp (by simp;exact Int.ne_of_lt (Int.lt_of_le_of_lt hb2 (by decide))) (bp (by unfold Builtin.Bytes.tooLong;simpa using h1) (ae (bn (wpAny_rule ?_))))))
 by_cases hn:n > 0
 ·exact fR hn (ae (bn (dI (f:=fun _=>Array.replicate n.toNat 0) e (by simpa using h1) fun h'' e'' k''=>ak (hq h'' e'' fun x o hx ho=>k'' x o hx (k x o hx ho)))))
 ·have h2:n.toNat=0:=Int.toNat_of_nonpos (Int.not_lt.mp hn)
  rw[h2] at hq
  exact bp hn (ak (hq h' e k))
theorem gY:typeLookup (.type "bytes") "__index__" = pure none:=by rw[typeLookup_type,builtinLookup_eq_fast];kernel_rfl
theorem c8:typeLookup (.type "bytes") "__buffer__" = pure (some (.builtin "bytes.__buffer__")):=by rw[typeLookup_type,builtinLookup_eq_fast];kernel_rfl
theorem nv:typeLookup (.type "bytes") "__release_buffer__" = pure none:=by rw[typeLookup_type,builtinLookup_eq_fast];kernel_rfl
theorem iw:typeLookup (.type "bytearray") "__buffer__" = pure (some (.builtin "bytearray.__buffer__")):=by rw[typeLookup_type,builtinLookup_eq_fast];kernel_rfl
theorem ml:isSubtype (.type "bytes") (.type "bytes")=pure true:=by rw[isSubtype_type];kernel_rfl
theorem jr {id:String} (hq:Q (some b) s):wpAny (model prog w) A (Builtin.Bytes.buffer? id (.bytes b t) full) Q E s:=by
 have hT:s.TypeIs (.bytes b t) "bytes" := typeIs_bytes _ _ _
 refine wpAny_bind (wpAny_specialOf hT c8 (wpAny_bind (wpAny_bind (wpAny_specialOf hT c8 (fU (by decide +kernel) ?_)))))
 rw[show ("bytes.__buffer__".dropRight ("__buffer__".length+1)) = "bytes" by decide +kernel]
 exact wpAny_isInstance hT ml (fU Bool.false_ne_true (wpAny_bind (wpAny_specialOf hT c8 (wpAny_bind (wpAny_bind (wpAny_bind (wpAny_specialOf hT nv (wpAny_pure (wpAny_pure (fU Bool.false_ne_true (wpAny_bind (wpAny_of_eq (a:=b) rfl (wpAny_pure hq)))))))))))))
theorem sL {id:String} (h:s.heap.get? a=some (ba b)) (hq:Q (some b) s):wpAny (model prog w) A (Builtin.Bytes.buffer? id (.ref a) full) Q E s:=by
 have hT:=typeIs h
 refine wpAny_bind (wpAny_specialOf hT iw (wpAny_bind (wpAny_bind (wpAny_specialOf hT iw (fU (by decide +kernel) ?_)))))
 rw[show ("bytearray.__buffer__".dropRight ("__buffer__".length+1)) = "bytearray" by decide +kernel]
 exact wpAny_isInstance hT sub_self (fU Bool.false_ne_true (wpAny_bind (wpAny_specialOf hT iw (wpAny_bind (dJ h (fU Bool.false_ne_true (wpAny_bind (dR h (wpAny_pure hq)))))))))
theorem qb (h:s.heap.get? a=some (ba #[])) (h1:b.size≤sizeLine)
  (hq:∀h',h'.get? a=some (ba b)→(∀x o,x≠a→s.heap.get? x=some o→h'.get? x=some o)→Q (.done (.ret .none)) { s with heap:=h' }) :
  aS (model prog w) A (Builtin.«bytearray.__init__» ⟨[.ref a,.bytes b t],[]⟩) Q E s:=by
 refine ae (bn (dJ h (bp Bool.false_ne_true (cA (vd _) (cA (a:=()) rfl (cA (a:=()) rfl (ae (eG h (bp Bool.false_ne_true (ae (bn (dI (f:=fun _=>#[]) h (by decide) fun h' e k=>?_))))))))))))
 refine cA (a:=none) rfl (bp Bool.false_ne_true (ae (bp Bool.false_ne_true (bp Bool.false_ne_true (ak (ae (bn (wpAny_specialOf (typeIs_bytes _ _ _) gY (bp Bool.false_ne_true (ae (bn (jr (ae (bn (wpAny_rule ?_)))))))))))))))
 exact ae (bn (dI (f:=fun _=>b) e h1 fun h'' e'' k''=>ak (hq h'' e'' fun x o hx ho=>k'' x o hx (k x o hx ho))))
end
end By
end
section
inductive All2 {α β:Type} (R:α→β→Prop):List α→List β→Prop where
 | nil:All2 R [] []
 | cons {a b l m}:R a b→All2 R l m→All2 R (a::l) (b::m)
theorem All2.imp {R S:α→β→Prop} {l:List α} {m:List β} (x:All2 R l m) (h:∀a b,R a b→S a b):All2 S l m:=by
 induction x with
 | nil=>exact .nil
 | cons r _ ih=>exact .cons (h _ _ r) ih
theorem All2.length {R:α→β→Prop} {l:List α} {m:List β} (x:All2 R l m):l.length=m.length:=by
 induction x with
 | nil=>rfl
 | cons _ _ ih=>simp[ih]
theorem All2.append {R:α→β→Prop} {l l':List α} {m m':List β} (x:All2 R l m) (y:All2 R l' m'):All2 R (l++l') (m++m'):=by
 induction x with
 | nil=>exact y
 | cons r _ ih=>exact .cons r ih
theorem All2.get {R:α→β→Prop} {l:List α} {m:List β} (x:All2 R l m) {i:Nat} {a:α} (h:l[i]? = some a):∃b,m[i]? = some b∧R a b:=by
 induction x generalizing i with
 | nil=>simp at h
 | cons r _ ih =>
  cases i with
  | zero=>simp at h;subst h;exact⟨_,rfl,r⟩
  | succ i=>simp at h;simpa using ih h
theorem All2.set {R:α→β→Prop} {l:List α} {m:List β} (x:All2 R l m) (i:Nat) {a:α} {b:β} (h:R a b):All2 R (l.set i a) (m.set i b):=by
 induction x generalizing i with
 | nil=>exact .nil
 | cons r s ih =>
  cases i with
  | zero=>exact .cons h s
  | succ i=>exact .cons r (ih i)
theorem All2.reverse {R:α→β→Prop} {l:List α} {m:List β} (x:All2 R l m):All2 R l.reverse m.reverse:=by
 induction x with
 | nil=>exact .nil
 | cons r _ ih=>simp only[List.reverse_cons];exact ih.append (.cons r .nil)
theorem All2.drop {R:α→β→Prop} {l:List α} {m:List β} (x:All2 R l m) (i:Nat):All2 R (l.drop i) (m.drop i):=by
 induction x generalizing i with
 | nil=>simp;exact .nil
 | cons r s ih =>
  cases i with
  | zero=>exact .cons r s
  | succ i=>exact ih i
theorem All2.take {R:α→β→Prop} {l:List α} {m:List β} (x:All2 R l m) (i:Nat):All2 R (l.take i) (m.take i):=by
 induction x generalizing i with
 | nil=>simp;exact .nil
 | cons r s ih =>
  cases i with
  | zero=>exact .nil
  | succ i=>exact .cons r (ih i)
inductive AV where
 | none | bool (b:Bool) | int (i:Int) | str (s:Str) | bytes (b:List UInt8) | type (n:String) | builtin (n:String) | base (a:Addr) | dyn (i:Nat) | unk
inductive AO where
 | gone
 | list (xs:List AV)
 | tuple (xs:List AV)
 | barr (b:List UInt8)
 | idict (es:List (Int×AV))
 | sdict (w:World) (es:List (Str×AV))
 | inst (C:Addr) (fs:List (Str×AV))
 | cell (v:Option AV)
 | exc0 (C:Addr)
 | exc (C:Addr) (j:Nat) (new:Bool)
 | ns (fs:List (Str×AV))
 | tab (P:Addr) (ts:List (Int×Int×Nat))
 | code (q:Str)
 | rng (a b:Int)
 | lam (params:Arguments) (body:Expr) (scope:Scope) (qual:Str) (cl:List (Str×Nat)) (k:Nat)
 | fn (fd:FuncData) (cl:List (Str×Nat))
 | obj (o:Obj)
 | slc (lo hi:Option Int)
noncomputable def fh:Option Int→Value→Prop
 | none,v=>v = .none
 | some i,v=>∃t,v = .int i t
abbrev LV:=List (Str×AV)
abbrev LA:=List AO
abbrev KV:=LV→LA→Prop
abbrev KA:=AV→LA→Prop
abbrev KN:=Nat→LA→Prop
abbrev KZ:=Bool→LA→Prop
abbrev KX:=Nat→LV→LA→Prop
structure PM where
 a:Nat→Addr
 d:Nat→Addr
noncomputable def VR (π:PM) (n:Nat):AV→Value→Prop
 | .none,v=>v = .none
 | .bool b,v=>v = .bool b
 | .int i,v=>∃t,v = .int i t
 | .str x,v=>∃t,v = .str x t
 | .bytes b,v=>∃t,v = .bytes b.toArray t
 | .type x,v=>v = .type x
 | .builtin x,v=>v = .builtin x
 | .base a,v=>v = .ref a
 | .dyn i,v=>i < n∧v = .ref (π.a i)
 | .unk,_=>False
def VRs (π:PM) (n:Nat) (as:List AV) (vs:List Value):Prop:=All2 (VR π n) as vs
structure PM.Ext (π π':PM) (n:Nat):Prop where
 a:∀i,i < n→π'.a i=π.a i
 d:∀i,i < n→π'.d i=π.d i
theorem PM.Ext.refl (π:PM) (n:Nat):π.Ext π n:=⟨fun _ _=>rfl,fun _ _=>rfl⟩
theorem PM.Ext.trans {π₁ π₂ π₃:PM} (x:π₁.Ext π₂ n) (y:π₂.Ext π₃ m) (h:n≤m):π₁.Ext π₃ n :=
 ⟨fun i hi=>(y.a i (Nat.lt_of_lt_of_le hi h)).trans (x.a i hi),fun i hi=>(y.d i (Nat.lt_of_lt_of_le hi h)).trans (x.d i hi)⟩
theorem VR.mono (x:VR π n a v) (e:π.Ext π' n) (h:n≤n'):VR π' n' a v:=by
 cases a with
 | dyn i=>exact⟨Nat.lt_of_lt_of_le x.1 h,by rw[e.a i x.1];exact x.2⟩
 | _=>exact x
theorem VRs.mono (x:VRs π n as vs) (e:π.Ext π' n) (h:n≤n'):VRs π' n' as vs :=
 x.imp fun _ _ y=>y.mono e h
def LvR (π:PM) (n:Nat) (lv:List (Str×AV)) (m:Str→Option Value):Prop :=
 ∀x,match lv.lookup x with
  | some a=>a ≠ .unk→∃v,m x=some v∧VR π n a v
  | none=>m x=none
theorem LvR.mono (x:LvR π n lv m) (e:π.Ext π' n) (h:n≤n'):LvR π' n' lv m:=fun y=>by
 have:=x y
 cases hq:lv.lookup y with
 | none=>rw[hq] at this;exact this
 | some a=>rw[hq] at this;exact fun hu=>let ⟨v,h1,h2⟩:=this hu;⟨v,h1,h2.mono e h⟩
noncomputable def e8 (π:PM) (ts:List (Int×Int×Nat)):List Value:=ts.flatMap fun t=>[rawInt t.1,rawInt t.2.1,.ref (π.a t.2.2)]
theorem iU:∀ {ts:List (Int×Int×Nat)},(∀t∈ts,π'.a t.2.2=π.a t.2.2)→e8 π' ts=e8 π ts
 | [],_=>rfl
 | t::ts,h=>by
  have:=iU (ts:=ts) fun u hu=>h u (List.mem_cons_of_mem _ hu)
  unfold e8 at this ⊢
  rw[List.flatMap_cons,List.flatMap_cons,this,h t (List.mem_cons_self ..)]
noncomputable def ORep (π:PM) (n:Nat) (h:Heap) (i:Nat):AO→Prop
 | .gone=>True
 | .list xs=>∃vs:List Value,h.PlainList (π.a i) vs.toArray∧VRs π n xs vs
 | .tuple xs=>∃vs:List Value,h.IsTuple (π.a i) vs.toArray∧VRs π n xs vs
 | .barr b=>h.get? (π.a i)=some { cls := .type "bytearray",data := .bytearray b.toArray 0 }
 | .idict es=>∃ (prog:Program) (w:World) (kvs:List (Int×Value)),h.DictOf (intKind prog w) (π.a i) kvs∧All2 (fun p q=>p.1=q.1∧VR π n p.2 q.2) es kvs
 | .sdict w es=>∃ (prog:Program) (kvs:List (Str×Value)),h.DictOf (strKind prog w) (π.a i) kvs∧All2 (fun p q=>p.1=q.1∧VR π n p.2 q.2) es kvs
 | .inst C fs=>∃o m,h.get? (π.a i)=some o∧o.cls = .ref C∧(∀c,o.data ≠ .cls c)∧o.dict=some (π.d i)∧π.d i≠π.a i∧h.Ns1 (π.d i) m∧LvR π n fs m
 | .exc0 C=>∃x0:Addr,h.get? (π.a i)=some { cls := .ref C,data := .fields #[.ref x0,.none,.none,.none,.bool false,.none] }
 | .exc C j new=>∃o vs x,h.get? (π.a i)=some o∧o.cls = .ref C∧o.dict=some (π.a j)∧j < n∧o.data = .fields vs∧vs[1]? = some x∧(new=true→x = .none)
 | .ns fs=>∃m,h.Ns1 (π.a i) m∧LvR π n fs m
 | .tab P ts=>π.a i=P∧h.get? P=some (tabObj (e8 π ts).toArray)∧∀t∈ts,t.2.2 < n
 | .code q=>h.CodeRec (.ref (π.a i)) q
 | .rng a b=>∃t u v,IsRange h (π.a i) a b 1 t u v
 | .lam params body scope qual cl k=>∃ctv pm,h.get? (π.a i)=some (kla_obj "<lambda>" qual params body scope (cl.map fun p=>(p.1,π.a p.2)) pm (π.a k) ctv)∧k < n∧∀p∈cl,p.2 < n
 | .cell v=>∃u,h.IsCell (π.a i) u∧(match v,u with | some a,some x=>VR π n a x | none,none=>True | _,_=>False)
 | .fn fd cl=>∃c:List (Str×Addr),h.get? (π.a i)=some { cls := .type "function",data := .func { fd with closure:=c } }∧c=cl.map (fun p=>(p.1,π.a p.2))∧∀p∈cl,p.2 < n
 | .obj o=>h.get? (π.a i)=some o
 | .slc lo hi=>∃l u,fh lo l∧fh hi u∧h.get? (π.a i)=some { cls := .type "slice",data := .fields #[l,u,.none] }
noncomputable def own (π:PM) (i:Nat):AO→List Addr
 | .gone=>[]
 | .inst .. => [π.a i,π.d i]
 | _=>[π.a i]
def Tr (π:PM) (σ:List AO) (b:Addr):Prop:=∃i o,σ[i]? = some o∧b∈own π i o
structure Rep (g:Heap) (π:PM) (σ:List AO) (h:Heap):Prop where
 at_:∀i o,σ[i]? = some o→ORep π σ.length h i o
 sep:∀i j o o' b,σ[i]? = some o→σ[j]? = some o'→b∈own π i o→b∈own π j o'→i=j
 new:∀i o b,σ[i]? = some o→b∈own π i o→g.get? b=none
theorem cI (e:π.Ext π' n) (h:i < n):own π' i o=own π i o:=by
 cases o<;>simp only[own,e.a i h,e.d i h]
theorem ORep.mono (x:ORep π n h i o) (e:π.Ext π' n) (hn:n≤n') (hi:i < n)
  (hk:∀b∈own π i o,∀ob,h.get? b=some ob→h'.get? b=some ob):ORep π' n' h' i o:=by
 have ha:=e.a i hi
 have hd:=e.d i hi
 cases o with
 | gone=>trivial
 | list xs =>
  (refine aF x fun vs zz1 h3=>?_;clear x;refine b8 zz1 fun k h1=>?_;clear zz1)
  exact⟨vs,⟨k,by rw[ha];exact hk _ (by simp[own]) _ h1⟩,h3.mono e hn⟩
 | tuple xs =>
  (refine aF x fun vs zz3 h3=>?_;clear x;refine aF zz3 fun ob h1 h2=>?_;clear zz3)
  exact⟨vs,⟨ob,by rw[ha];exact hk _ (by simp[own]) _ h1,h2⟩,h3.mono e hn⟩
 | barr b=>show h'.get? (π'.a i)=_;rw[ha];exact hk _ (by simp[own]) _ x
 | idict es =>
  (refine cM x fun pr w l zz6 h2=>?_;clear x;refine cM zz6 fun ob dd ep h1 r=>?_;clear zz6)
  exact⟨pr,w,l,⟨ob,dd,ep,by rw[ha];exact hk _ (by simp[own]) _ h1,r⟩,h2.imp fun _ _ y=>⟨y.1,y.2.mono e hn⟩⟩
 | sdict w es =>
  (refine ci x fun pr l zz13 h2=>?_;clear x;refine cM zz13 fun ob dd ep h1 r=>?_;clear zz13)
  exact⟨pr,l,⟨ob,dd,ep,by rw[ha];exact hk _ (by simp[own]) _ h1,r⟩,h2.imp fun _ _ y=>⟨y.1,y.2.mono e hn⟩⟩
 | inst C fs =>
  (refine gk x fun ob m h1 h2 h3 h4 h5 zz19 h7=>?_;clear x;refine cM zz19 fun od es ep k1 k2=>?_;clear zz19)
  exact⟨ob,m,by rw[ha];exact hk _ (by simp[own]) _ h1,h2,h3,by rw[hd];exact h4,by rw[ha,hd];exact h5,by
   rw[hd];exact⟨od,es,ep,hk _ (by simp[own]) _ k1,k2⟩,h7.mono e hn⟩
 | exc0 C =>
  (refine b8 x fun x0 h1=>?_;clear x)
  exact⟨x0,by rw[ha];exact hk _ (by simp[own]) _ h1⟩
 | exc C j new =>
  (refine jK x fun o vs y h1 h2 h3 h4 h5=>?_;clear x)
  exact⟨o,vs,y,by rw[ha];exact hk _ (by simp[own]) _ h1,h2,by rw[e.a j h4];exact h3,Nat.lt_of_lt_of_le h4 hn,h5⟩
 | ns fs =>
  (refine aF x fun m zz36 h7=>?_;clear x;refine cM zz36 fun od es ep k1 k2=>?_;clear zz36)
  exact⟨m,⟨od,es,ep,by rw[ha];exact hk _ (by simp[own]) _ k1,k2⟩,h7.mono e hn⟩
 | tab P ts =>
  (refine dA x fun h0 h1 h2=>?_;clear x)
  have e':e8 π' ts=e8 π ts:=iU fun t ht=>e.a _ (h2 t ht)
  exact⟨ha.trans h0,by rw[e'];exact hk _ (by simp[own,h0]) _ h1,fun t ht=>Nat.lt_of_lt_of_le (h2 t ht) hn⟩
 | rng a b =>
  (refine o6 x fun t u v h1=>?_;clear x)
  exact⟨t,u,v,by rw[ha];exact hk _ (by simp[own]) _ h1⟩
 | code q =>
  (refine jm x fun c o vs t e1 e2 r=>?_;clear x)
  refine⟨c,o,vs,t,by rw[ha];exact e1,?_,r⟩
  cases e1;exact hk _ (by simp[own]) _ e2
 | lam params body scope qual cl k =>
  (refine cy x fun ctv pm h1 h2 h3=>?_;clear x)
  refine⟨ctv,pm,?_,Nat.lt_of_lt_of_le h2 hn,fun p hp=>Nat.lt_of_lt_of_le (h3 p hp) hn⟩
  have e':cl.map (fun p=>(p.1,π'.a p.2))=cl.map (fun p=>(p.1,π.a p.2)):=List.map_congr_left fun p hp=>by rw[e.a _ (h3 p hp)]
  rw[ha,e',e.a _ h2];exact hk _ (by simp[own]) _ h1
 | cell v =>
  (refine aF x fun u h1 h2=>?_;clear x)
  refine⟨u,?_,?_⟩
  ·(refine aF h1 fun ob k1 k2=>?_;clear h1)
   rw[ha];exact⟨ob,hk _ (by simp[own]) _ k1,k2⟩
  ·cases v<;>cases u<;>first | exact h2 | exact VR.mono h2 e hn
 | fn fd cl =>
  (refine fX x fun c h1 h2 h3=>?_;clear x)
  refine⟨c,by rw[ha];exact hk _ (by simp[own]) _ h1,?_,fun p hp=>Nat.lt_of_lt_of_le (h3 p hp) hn⟩
  rw[h2]
  exact List.map_congr_left fun p hp=>by rw[e.a _ (h3 p hp)]
 | obj o=>show h'.get? (π'.a i)=_;rw[ha];exact hk _ (by simp[own]) _ x
 | slc lo hi =>
  (refine cy x fun l u h1 h2 h3=>?_;clear x)
  exact⟨l,u,h1,h2,by rw[ha];exact hk _ (by simp[own]) _ h3⟩
theorem Rep.there (R:Rep g π σ h) (t:Tr π σ b):∃ob,h.get? b=some ob:=by
 (refine ci t fun i ao t1 t2=>?_;clear t)
 have:=R.at_ i ao t1
 cases ao with
 | gone=>simp[own] at t2
 | list xs=>(refine aF this fun vs zz61 _=>?_;clear this;refine b8 zz61 fun n h1=>?_;clear zz61);simp only[own,List.mem_singleton] at t2;rw[t2];exact⟨_,h1⟩
 | tuple xs=>(refine aF this fun vs zz63 _=>?_;clear this;refine aF zz63 fun ob h1 _=>?_;clear zz63);simp only[own,List.mem_singleton] at t2;rw[t2];exact⟨ob,h1⟩
 | barr xs=>simp only[own,List.mem_singleton] at t2;rw[t2];exact⟨_,this⟩
 | idict es=>(refine cM this fun _ _ l zz66 _=>?_;clear this;refine cM zz66 fun ob dd ep h1 _=>?_;clear zz66);simp only[own,List.mem_singleton] at t2;rw[t2];exact⟨_,h1⟩
 | sdict w es=>(refine ci this fun _ l zz73 _=>?_;clear this;refine cM zz73 fun ob dd ep h1 _=>?_;clear zz73);simp only[own,List.mem_singleton] at t2;rw[t2];exact⟨_,h1⟩
 | inst C fs =>
  (refine gk this fun ob m h1 _ _ _ _ zz79 _=>?_;clear this;refine cM zz79 fun od es ep k1 _=>?_;clear zz79)
  simp only[own,List.mem_cons,List.not_mem_nil,or_false] at t2
  rcases t2 with t2 | t2
  ·rw[t2];exact⟨_,h1⟩
  ·rw[t2];exact⟨_,k1⟩
 | exc0 C=>(refine b8 this fun x0 h1=>?_;clear this);simp only[own,List.mem_singleton] at t2;rw[t2];exact⟨_,h1⟩
 | exc C j new=>(refine cM this fun o vs y h1 _=>?_;clear this);simp only[own,List.mem_singleton] at t2;rw[t2];exact⟨_,h1⟩
 | ns fs=>(refine aF this fun m zz93 _=>?_;clear this;refine cM zz93 fun od es ep k1 _=>?_;clear zz93);simp only[own,List.mem_singleton] at t2;rw[t2];exact⟨_,k1⟩
 | tab P ts=>simp only[own,List.mem_singleton] at t2;rw[t2,this.1];exact⟨_,this.2.1⟩
 | rng a b=>(refine o6 this fun t u v h1=>?_;clear this);simp only[own,List.mem_singleton] at t2;rw[t2];exact⟨_,h1⟩
 | code q=>(refine jm this fun c o vs t e1 e2 r=>?_;clear this);simp only[own,List.mem_singleton] at t2;cases e1;rw[t2];exact⟨_,e2⟩
 | lam params body scope qual cl k=>(refine ci this fun ctv pm h1 _=>?_;clear this);simp only[own,List.mem_singleton] at t2;rw[t2];exact⟨_,h1⟩
 | cell v=>(refine aF this fun u zz107 _=>?_;clear this;refine aF zz107 fun ob h1 _=>?_;clear zz107);simp only[own,List.mem_singleton] at t2;rw[t2];exact⟨_,h1⟩
 | fn fd cl=>(refine aF this fun c h1 _=>?_;clear this);simp only[own,List.mem_singleton] at t2;rw[t2];exact⟨_,h1⟩
 | obj o=>simp only[own,List.mem_singleton] at t2;rw[t2];exact⟨_,this⟩
 | slc lo hi=>(refine cy this fun l u _ _ h3=>?_;clear this);simp only[own,List.mem_singleton] at t2;rw[t2];exact⟨_,h3⟩
end
section
theorem iq {lo:Option Int} (h:fh lo v):IsPart v lo:=by
 cases lo with
 | none=>cases h;exact .none
 | some i=>(refine b8 h fun t zz1=>?_;clear h;subst zz1);exact .int i t
noncomputable def cL (n:Nat) (lo:Option Int):Nat:=lo.elim 0 (clipAt n)
noncomputable def d9 (n:Nat) (hi:Option Int):Nat:=hi.elim n (clipAt n)
noncomputable def cut {α:Type} (xs:List α) (lo hi:Option Int):List α:=(xs.drop (cL xs.length lo)).take (d9 xs.length hi - cL xs.length lo)
theorem sJ (n:Nat) (i:Int):clipAt n i≤n:=by unfold clipAt;omega
theorem uU (n:Nat) (lo:Option Int):cL n lo≤n:=by cases lo<;>simp[cL,sJ]
theorem dM (xs:List α) (lo hi:Option Int):(cut xs lo hi).length≤xs.length:=by unfold cut;rw[List.length_take,List.length_drop];exact q2 0 0 0 0 0 0 (Nat.min_le_right _ _) (Nat.sub_le _ _) rfl
namespace By
section
variable {prog:Program} {w:World} {A:Around} {E:Value→Shared→Prop} {s:Shared}
theorem fK {T id:String} (hT:s.TypeIs self T) (h:Slot T name id) (en:entryFor table id=some Bi) (ok:d7 (.builtin id ⟨self::rest,[]⟩)=true) (ha:argsOk id ⟨self::rest,[]⟩)
  (hc:aS (model prog w) A.in1 (Bi ⟨self::rest,[]⟩) (fun fin s'=>∃v,fin = .done (.ret v)∧Q v s') E s):aS (model prog w) A (call (.builtin id) (self::rest)) Q E s:=by
 refine dk (dT ok (plainId_quiet h.plain _) en (bn (h.check _ _ _ _ _ _ _ _ hT ha ?_)))
 rw[Around.under_plainId h.plain _]
 exact bb hc (fun fin s' k=>by obtain⟨v,rfl,k⟩:=k;exact k) fun _ _ x=>x
theorem eD {T id:String} (hT:s.TypeIs self T) (h:Slot T name id) (en:entryFor table id=some Bi) (ok:d7 (.builtin id ⟨self::rest,[]⟩)=true) (ha:argsOk id ⟨self::rest,[]⟩)
  (hc:aS (model prog w) A.in1 (Bi ⟨self::rest,[]⟩) (fun fin s'=>∃v,fin = .done (.ret v)∧Q (some v) s') E s):aS (model prog w) A (callSpecial? self name rest) Q E s:=by
 simp only[callSpecial?]
 refine ae (bn (wpAny_specialOf hT h.lookup ?_))
 simp only[h.bind]
 exact aq (ae (ak (ae (fK hT h en ok ha (bb hc (fun fin s' k=>by obtain⟨v,rfl,k⟩:=k;exact⟨v,rfl,ak k⟩) fun _ _ x=>x)))))
theorem fS {T id:String} (hT:s.TypeIs o T) (hn:seqItemTypes.contains T=false) (h:Slot T "__getitem__" id) (en:entryFor table id=some Bi) (ok:d7 (.builtin id ⟨[o,i],[]⟩)=true) (ha:argsOk id ⟨[o,i],[]⟩)
  (hc:aS (model prog w) A.in1 (Bi ⟨[o,i],[]⟩) (fun fin s'=>∃v,fin = .done (.ret v)∧Q v s') E s):aS (model prog w) A (getItem o i) Q E s:=by
 unfold getItem
 refine aq (ae (bn (wpAny_sequenceKey hT hn ?_)))
 exact ae (eD hT h en ok ha (bb hc (fun fin s' k=>by obtain⟨v,rfl,k⟩:=k;exact⟨v,rfl,ak k⟩) fun _ _ x=>x))
theorem jz {T id:String} (hT:s.TypeIs o T) (hn:seqItemTypes.contains T=false) (h:Slot T "__setitem__" id) (en:entryFor table id=some Bi) (ok:d7 (.builtin id ⟨[o,i,v],[]⟩)=true) (ha:argsOk id ⟨[o,i,v],[]⟩)
  (hc:aS (model prog w) A.in1 (Bi ⟨[o,i,v],[]⟩) (fun fin s'=>∃r,fin = .done (.ret r)∧Q () s') E s):aS (model prog w) A (setItem o i v) Q E s:=by
 unfold setItem
 refine aq (ae (bn (wpAny_sequenceKey hT hn ?_)))
 exact ae (eD hT h en ok ha (bb hc (fun fin s' k=>by obtain⟨v,rfl,k⟩:=k;exact⟨v,rfl,ak k⟩) fun _ _ x=>x))
theorem slot_get:Slot "bytearray" "__getitem__" "bytearray.__getitem__" := by exact .of (owner := "bytearray") (n := "__getitem__") (by rw[typeLookup_type,builtinLookup_eq_fast];kernel_rfl) (by decide +kernel) (by decide +kernel) (by decide +kernel)     (by first | exact .inl (by decide +kernel) | exact .inr (by decide +kernel)) (by rw[isSubtype_type];kernel_rfl)
theorem ue:Slot "bytearray" "__setitem__" "bytearray.__setitem__" := by exact .of (owner := "bytearray") (n := "__setitem__") (by rw[typeLookup_type,builtinLookup_eq_fast];kernel_rfl) (by decide +kernel) (by decide +kernel) (by decide +kernel)     (by first | exact .inl (by decide +kernel) | exact .inr (by decide +kernel)) (by rw[isSubtype_type];kernel_rfl)
theorem oG:Slot "bytearray" "__len__" "bytearray.__len__" := by exact .of (owner := "bytearray") (n := "__len__") (by rw[typeLookup_type,builtinLookup_eq_fast];kernel_rfl) (by decide +kernel) (by decide +kernel) (by decide +kernel)     (by first | exact .inl (by decide +kernel) | exact .inr (by decide +kernel)) (by rw[isSubtype_type];kernel_rfl)
theorem slot_append:Slot "bytearray" "append" "bytearray.append" := by exact .of (owner := "bytearray") (n := "append") (by rw[typeLookup_type,builtinLookup_eq_fast];kernel_rfl) (by decide +kernel) (by decide +kernel) (by decide +kernel)     (by first | exact .inl (by decide +kernel) | exact .inr (by decide +kernel)) (by rw[isSubtype_type];kernel_rfl)
theorem oK:Slot "bytearray" "extend" "bytearray.extend" := by exact .of (owner := "bytearray") (n := "extend") (by rw[typeLookup_type,builtinLookup_eq_fast];kernel_rfl) (by decide +kernel) (by decide +kernel) (by decide +kernel)     (by first | exact .inl (by decide +kernel) | exact .inr (by decide +kernel)) (by rw[isSubtype_type];kernel_rfl)
theorem entry_get:entryFor table "bytearray.__getitem__" = some Builtin.«bytearray.__getitem__»:=by first | exact entryFor_of_fast (by kernel_rfl) | exact entryFor_of_tree (by kernel_rfl)
theorem sD:entryFor table "bytearray.__setitem__" = some Builtin.«bytearray.__setitem__»:=by first | exact entryFor_of_fast (by kernel_rfl) | exact entryFor_of_tree (by kernel_rfl)
theorem sF:entryFor table "bytearray.__len__" = some Builtin.«bytearray.__len__»:=by first | exact entryFor_of_fast (by kernel_rfl) | exact entryFor_of_tree (by kernel_rfl)
theorem nE:entryFor table "bytearray.append" = some Builtin.«bytearray.append»:=by first | exact entryFor_of_fast (by kernel_rfl) | exact entryFor_of_tree (by kernel_rfl)
theorem nD:entryFor table "bytearray.extend" = some Builtin.«bytearray.extend»:=by first | exact entryFor_of_fast (by kernel_rfl) | exact entryFor_of_tree (by kernel_rfl)
theorem args_get (a v:Value):argsOk "bytearray.__getitem__" ⟨[a,v],[]⟩:=by unfold argsOk;kernel_rfl
theorem vf (a v x:Value):argsOk "bytearray.__setitem__" ⟨[a,v,x],[]⟩:=by unfold argsOk;kernel_rfl
theorem vg (a:Value):argsOk "bytearray.__len__" ⟨[a],[]⟩:=by unfold argsOk;kernel_rfl
theorem pp (a v:Value):argsOk "bytearray.append" ⟨[a,v],[]⟩:=by unfold argsOk;kernel_rfl
theorem po (a v:Value):argsOk "bytearray.extend" ⟨[a,v],[]⟩:=by unfold argsOk;kernel_rfl
theorem zd [Decidable c] {X Y:Prop} (hc:¬c) (h:Y):if c then X else Y:=by
 rw[if_neg hc];exact h
theorem gJ (hs:s.heap.get? a=some o) (hc:o.cls = .type "slice") (h:Q none s):wpAny M A (Builtin.Bytes.subscript? (.ref a)) Q E s:=by
 unfold Builtin.Bytes.subscript?
 refine wpAny_bind (wpAny_specialOf ⟨o,hs,hc⟩ slice_no_index (wpAny_pure ?_))
 exact h
theorem lT (h0:Builtin.Bytes.fitsIndex i=true) (h:Q (some i) s):wpAny M A (Builtin.Bytes.subscript? (.int i t)) Q E s:=by
 unfold Builtin.Bytes.subscript?
 refine wpAny_bind (wpAny_specialOf (typeIs_int _ _ _) jh ?_)
 rw[if_neg (by simp)]
 refine wpAny_bind (wpAny_of_eq (a:=i) rfl ?_)
 rw[if_neg (by simp[h0])]
 exact wpAny_pure h
theorem ur {lo hi:Option Int} (hs:s.heap.get? a=some { cls := .type "slice",data := .fields #[l,u,.none] }) (pl:fh lo l) (pu:fh hi u)
  (h:Q (rawPart lo,rawPart hi,rawPart none) s):wpAny M A (Builtin.Bytes.sliceParts (.ref a)) Q E s:=by
 unfold Builtin.Bytes.sliceParts
 refine wpAny_bind (wpAny_field (x := .none) hs rfl rfl ?_)
 kby_none
 refine wpAny_ite (zd (show ¬ ((Value.none==rawInt 0)=true) from Bool.false_ne_true) ?_)
 refine wpAny_bind (wpAny_field (x:=l) hs rfl rfl ?_)
 have hl:=iq pl
 have hu:=iq pu
 cases hl<;>cases hu<;>(first
  | (kby_none;(refine wpAny_bind (wpAny_field (x := .none) hs rfl rfl ?_));kby_none)
  | (kby_none;(refine wpAny_bind (wpAny_field (x := .int _ _) hs rfl rfl ?_));kby_int)
  | (kby_int;(refine wpAny_bind (wpAny_field (x := .none) hs rfl rfl ?_));kby_none)
  | (kby_int;(refine wpAny_bind (wpAny_field (x := .int _ _) hs rfl rfl ?_));kby_int))<;>exact wpAny_pure h
theorem pS (b:List UInt8) (lo hi:Option Int):Builtin.Bytes.sliced b.toArray (sliceBounds lo hi none b.toArray.size).1 (sliceBounds lo hi none b.toArray.size).2.1 (sliceBounds lo hi none b.toArray.size).2.2=(cut b lo hi).toArray:=by
 unfold Builtin.Bytes.sliced
 rw[sliceBounds_plain]
 simp only[sliceRange_one,pick_run]
 rfl
theorem get_slice {lo hi:Option Int} (h:s.heap.get? a=some (ba b.toArray)) (hs:s.heap.get? c=some { cls := .type "slice",data := .fields #[l,u,.none] }) (pl:fh lo l) (pu:fh hi u)
  (hz:b.length≤sizeLine) (hq:Q (.ref s.heap.objs.size) { s with heap:=s.heap.push (ba (cut b lo hi).toArray) }):aS (model prog w) A (getItem (.ref a) (.ref c)) Q E s:=by
 refine fS (typeIs h) (by decide) slot_get entry_get rfl (args_get _ _) (bn ?_)
 show wpAny _ _ (Builtin.Bytes.subscript? (.ref c) >>= fun r=>_) _ _ s
 refine wpAny_bind (gJ hs rfl ?_)
 show wpAny _ _ (typeOf (.ref c) >>= fun r=>_) _ _ s
 refine wpAny_bind (wpAny_typeOf ⟨_,hs,rfl⟩ ?_)
 rw[if_neg (by decide)]
 refine wpAny_bind (ur hs pl pu ?_)
 refine wpAny_bind (dR h ?_)
 refine wpAny_bind (wpAny_of_eq (sliceIndices_raw lo hi none _ (fun e=>nomatch e)) ?_)
 show wpAny _ _ (Builtin.Bytes.newBytearray (Builtin.Bytes.sliced b.toArray (sliceBounds lo hi none b.toArray.size).1 (sliceBounds lo hi none b.toArray.size).2.1 (sliceBounds lo hi none b.toArray.size).2.2) >>= fun v=>ret v) _ _ _
 rw[pS]
 unfold Builtin.Bytes.newBytearray
 exact wpAny_bind (wpAny_newObj_type (wpAny_pure ⟨_,rfl,hq⟩) (by show (cut b lo hi).toArray.size≤sizeLine;rw[List.size_toArray];exact Nat.le_trans (dM ..) hz))
theorem get_item {b:List UInt8} (h:s.heap.get? a=some (ba b.toArray)) (h0:0≤i) (h1:i < 2 ^ 63) (hx:b[i.toNat]? = some x) (hq:Q (.int x.toNat s.toks) { s with toks:=s.toks+1 }) :
  aS (model prog w) A (getItem (.ref a) (.int i t)) Q E s:=by
 refine fS (typeIs h) (by decide) slot_get entry_get rfl (args_get _ _) (bn ?_)
 show wpAny _ _ (Builtin.Bytes.subscript? (.int i t) >>= fun r=>_) _ _ s
 refine wpAny_bind (lT (by unfold Builtin.Bytes.fitsIndex;simp;exact⟨Int.le_of_lt (Int.lt_of_lt_of_le (by decide) h0),Int.lt_of_lt_of_le h1 (by decide)⟩) ?_)
 dsimp only
 refine wpAny_bind (dR h ?_)
 have hl:i.toNat < b.length:=(List.getElem?_eq_some_iff.mp hx).1
 have e:seqIndex? i b.toArray.size=some i.toNat:=by
  have h2:¬i < 0:=Int.not_lt.mpr h0
  have h3:i < (b.length:Int):=nC (Int.ofNat_lt.mpr hl) (Int.le_of_eq (Int.toNat_of_nonneg (Int.not_lt.mp h2)).symm)
  simp[seqIndex?,h2,h3,h0]
 rw[e]
 simp only[Option.bind_some,List.getElem?_toArray,hx]
 exact wpAny_bind (wpAny_mkInt (wpAny_pure ⟨_,rfl,hq⟩))
theorem len_ba {b:List UInt8} (h:s.heap.get? a=some (ba b.toArray)) (hn:b.length < 2 ^ 63) (hq:Q (.int b.length (s.toks+1)) { s with toks:=s.toks+1+1 }):wpAny (model prog w) A (call (.builtin "len") [.ref a]) Q E s:=by
 refine call_len_slot (typeIs h) oG (fun Q' hq'=>wpAny_call_entry oG (typeIs h) sF ?_ (vg _)) (Int.not_lt.mpr (Int.natCast_nonneg _)) (Int.not_le.mpr (Int.lt_of_lt_of_le (Int.ofNat_lt.mpr hn) (by decide))) hq
 show wpAny _ _ (Builtin.Bytes.payload (.ref a) >>= fun r=>_) _ _ s
 refine wpAny_bind (dR h ?_)
 exact wpAny_bind (wpAny_mkInt (wpAny_pure ⟨_,rfl,hq'⟩))
theorem ff (h:s.heap.get? a=some (ba b)) (hq:Q () s):aS (model prog w) A (Builtin.Bytes.checkResize (.ref a)) Q E s:=by
 unfold Builtin.Bytes.checkResize
 refine ae (eG h ?_)
 rw[if_neg Bool.false_ne_true]
 exact ak hq
theorem uZ (h0:0≤i) (h1:i < 256) (hq:Q i.toNat.toUInt8 s):wpAny M A (Builtin.Bytes.byteValue (.int i t)) Q E s:=by
 unfold Builtin.Bytes.byteValue
 refine wpAny_bind (wpAny_of_eq (a:=i) rfl ?_)
 rw[if_neg (by simp;exact⟨h0,h1⟩)]
 exact wpAny_pure hq
theorem append_ba (h:s.heap.get? a=some (ba b.toArray)) (h0:0≤i) (h1:i < 256) (hz:b.length+1≤sizeLine)
  (hq:∀h',h'.get? a=some (ba (b++[i.toNat.toUInt8]).toArray)→(∀x o,x≠a→s.heap.get? x=some o→h'.get? x=some o)→Q .none { s with heap:=h' }):aS (model prog w) A (call (.builtin "bytearray.append") [.ref a,.int i t]) Q E s:=by
 refine fK (typeIs h) slot_append nE rfl (pp _ _) ?_
 show aS _ _ (Builtin.Bytes.byteValue (.int i t) >>= fun r=>_) _ _ s
 refine ae (bn (uZ h0 h1 ?_))
 refine ae (ff h ?_)
 refine ae (bn (dI h (by simpa using hz) fun h' e k=>ak ⟨_,rfl,hq h' (by simpa using e) k⟩))
theorem Ah {b c:List UInt8} (h:s.heap.get? a=some (ba b.toArray)) (hz:b.length+c.length≤sizeLine)
  (hq:∀h',h'.get? a=some (ba (b++c).toArray)→(∀x o,x≠a→s.heap.get? x=some o→h'.get? x=some o)→Q .none { s with heap:=h' }):aS (model prog w) A (call (.builtin "bytearray.extend") [.ref a,.bytes c.toArray t]) Q E s:=by
 have hT:s.TypeIs (.bytes c.toArray t) "bytes" := typeIs_bytes _ _ _
 refine fK (typeIs h) oK nD rfl (po _ _) ?_
 unfold Builtin.«bytearray.extend»
 refine ae (bn (wpAny_of_eq (a:=(.ref a,.bytes c.toArray t)) rfl ?_))
 dsimp only
 refine ae (bn (wpAny_specialOf hT c8 ?_))
 rw[if_pos (by rfl)]
 refine ae (bn (wpAny_rule ?_))
 refine ae (bn (dR h ?_))
 refine ae (bn ?_)
 unfold Builtin.Bytes.takeBufferQuiet? Builtin.Bytes.takeBuffer?
 refine wpAny_bind (wpAny_attempt ?_)
 refine wpAny_bind (wpAny_specialOf hT c8 ?_)
 dsimp only
 refine wpAny_bind ?_
 unfold Builtin.Bytes.slotIsOwn
 refine wpAny_bind (wpAny_specialOf hT c8 ?_)
 dsimp only
 rw[if_neg (by decide +kernel),show ("bytes.__buffer__".dropRight ("__buffer__".length+1)) = "bytes" by decide +kernel]
 refine wpAny_isInstance hT ml ?_
 rw[if_neg (by simp)]
 refine wpAny_bind (wpAny_specialOf hT c8 ?_)
 refine wpAny_bind (jr ?_)
 refine wpAny_pure (wpAny_pure ?_)
 show aS _ _ (if (none:Option Value).isNone=true then _ else _) _ _ _
 rw[if_pos (by rfl)]
 have fin:aS (model prog w) A.in1 (Builtin.Bytes.write (.ref a) (·++c.toArray) >>= fun _=>ret .none) (fun fin s'=>∃v,fin = .done (.ret v)∧Q v s') E s :=
  ae (bn (dI (f:=(·++c.toArray)) h (by simpa using hz) fun h' e k=>ak ⟨_,rfl,hq h' (by simpa using e) k⟩))
 by_cases hc:(!c.toArray.isEmpty)=true
 ·show aS _ _ (if (!c.toArray.isEmpty)=true then (Builtin.Bytes.checkResize (.ref a) >>= fun _=>_) else _) _ _ _
  rw[if_pos hc]
  exact ae (ff h fin)
 ·show aS _ _ (if (!c.toArray.isEmpty)=true then _ else _) _ _ _
  rw[if_neg hc]
  exact fin
theorem nw:typeLookup (.type "bytes") "__int__" = pure none:=by rw[typeLookup_type,builtinLookup_eq_fast];kernel_rfl
theorem kQ:typeLookup (.type "bytes") "__float__" = pure none:=by rw[typeLookup_type,builtinLookup_eq_fast];kernel_rfl
theorem jb:isSubtype (.type "bytes") (.type "complex")=pure false:=by rw[isSubtype_type];kernel_rfl
theorem nc:isSubtype (.type "bytes") (.type "bytearray")=pure false:=by rw[isSubtype_type];kernel_rfl
theorem l8 (hz:c.size≤sizeLine)
  (hq:∀h' a,s.heap.get? a=none→h'.get? a=some (ba c)→(∀x o,s.heap.get? x=some o→h'.get? x=some o)→Q (.ref a) { s with heap:=h' }):aS (model prog w) A (call (.type "bytearray") [.bytes c t]) Q E s:=by
 refine ez nQ (jD _) gh (fun _=>rfl) (jq _ ?_)
 have hn:s.heap.get? s.heap.objs.size=none:=Heap.get?_none_of_le (Nat.le_refl _)
 have he:(s.heap.push (ba #[])).get? s.heap.objs.size=some (ba #[]):=Heap.get?_push_size _ rfl
 refine⟨⟨_,he,rfl⟩,vh _ _,qb he hz fun h' e k=>⟨rfl,hq h' _ hn e fun x o ho=>k x o (fun q=>by rw[q,hn] at ho;cases ho) (Heap.get?_push_of_some _ ho)⟩⟩
theorem call_of_int (h0:0≤n) (hz:n.toNat≤sizeLine)
  (hq:∀h' a,s.heap.get? a=none→h'.get? a=some (ba (Array.replicate n.toNat 0))→(∀x o,s.heap.get? x=some o→h'.get? x=some o)→Q (.ref a) { s with heap:=h' }):aS (model prog w) A (call (.type "bytearray") [.int n t]) Q E s:=by
 refine ez nQ (jD _) gh (fun _=>rfl) (jq _ ?_)
 have hn:s.heap.get? s.heap.objs.size=none:=Heap.get?_none_of_le (Nat.le_refl _)
 have he:(s.heap.push (ba #[])).get? s.heap.objs.size=some (ba #[]):=Heap.get?_push_size _ rfl
 refine⟨⟨_,he,rfl⟩,vh _ _,uN he h0 hz fun h' e k=>⟨rfl,hq h' _ hn e fun x o ho=>k x o (fun q=>by rw[q,hn] at ho;cases ho) (Heap.get?_push_of_some _ ho)⟩⟩
theorem call_of_nothing
  (hq:∀h' a,s.heap.get? a=none→h'.get? a=some (ba #[])→(∀x o,s.heap.get? x=some o→h'.get? x=some o)→Q (.ref a) { s with heap:=h' }):aS (model prog w) A (call (.type "bytearray") []) Q E s:=by
 refine ez nQ rS gh (fun _=>rfl) (jq _ ?_)
 have hn:s.heap.get? s.heap.objs.size=none:=Heap.get?_none_of_le (Nat.le_refl _)
 have he:(s.heap.push (ba #[])).get? s.heap.objs.size=some (ba #[]):=Heap.get?_push_size _ rfl
 refine⟨⟨_,he,rfl⟩,Bl _,AR he fun h' e k=>⟨rfl,hq h' _ hn e fun x o ho=>k x o (fun q=>by rw[q,hn] at ho;cases ho) (Heap.get?_push_of_some _ ho)⟩⟩
theorem set_slice {b d:List UInt8} {lo hi:Option Int} (h:s.heap.get? a=some (ba b.toArray)) (hs:s.heap.get? c=some { cls := .type "slice",data := .fields #[l,u,.none] }) (pl:fh lo l) (pu:fh hi u)
  (hd:d.length≤sizeLine) (hz:b.length+d.length≤sizeLine)
  (hq:∀h',h'.get? a=some (ba (b.take (cL b.length lo)++d++b.drop (max (cL b.length lo) (d9 b.length hi))).toArray)→(∀x o,x≠a→s.heap.get? x=some o→h'.get? x=some o)→Q () { s with heap:=h' }) :
  aS (model prog w) A (setItem (.ref a) (.ref c) (.bytes d.toArray t)) Q E s:=by
 have hT:s.TypeIs (.bytes d.toArray t) "bytes" := typeIs_bytes _ _ _
 refine jz (typeIs h) (by decide) ue sD rfl (vf _ _ _) (ae (bn (gJ hs rfl ?_)))
 refine ae (bn (wpAny_typeOf (T := "slice") ⟨_,hs,rfl⟩ ?_))
 refine bp (by decide) (ae (bn (ur hs pl pu ?_)))
 refine ae (bn (wpAny_isInstance hT nc ?_))
 refine fR (by rfl) (ae (bn ?_))
 refine wpAny_bind (wpAny_bind (wpAny_specialOf hT gY (wpAny_pure (wpAny_bind (wpAny_bind (wpAny_specialOf hT nw (wpAny_pure (wpAny_bind (wpAny_bind (wpAny_specialOf hT kQ (wpAny_pure (wpAny_isInstance hT jb ?_))))))))))))
 refine cA (a:=none) rfl (bp Bool.false_ne_true (ae (bn (wpAny_rule (ae (l8 (by simpa using hd) fun h₁ x hn e k=>?_))))))
 refine ae (aq (bn (ur (k _ _ hs) pl pu (ae (bn (dR e (ae (bn (dR (k _ _ h) (cA ((sliceIndices_raw lo hi none _ (fun e=>nomatch e)).trans (congrArg pure (sliceBounds_plain ..))) (fR rfl (ae (bn (wpAny_rule ?_))))))))))))))
 have e1:(((lo.elim 0 (clipAt b.toArray.size):Nat):Int)).toNat=cL b.length lo:=by cases lo<;>simp[cL]
 have e2:(max ((lo.elim 0 (clipAt b.toArray.size):Nat):Int) ((hi.elim b.toArray.size (clipAt b.toArray.size):Nat):Int)).toNat=max (cL b.length lo) (d9 b.length hi):=by
  have q1:((lo.elim 0 (clipAt b.toArray.size):Nat):Int)=(cL b.length lo:Int):=by cases lo<;>simp[cL]
  have q2:((hi.elim b.toArray.size (clipAt b.toArray.size):Nat):Int)=(d9 b.length hi:Int):=by cases hi<;>simp[d9]
  rw[q1,q2];omega
 have fin:∀s₁:Shared,s₁={ s with heap:=h₁ }→aS (model prog w) A.in1 (Builtin.Bytes.write (.ref a) (fun b'=>b'.extract 0 (((lo.elim 0 (clipAt b.toArray.size):Nat):Int)).toNat++d.toArray++b'.extract (max ((lo.elim 0 (clipAt b.toArray.size):Nat):Int) ((hi.elim b.toArray.size (clipAt b.toArray.size):Nat):Int)).toNat b'.size) >>= fun _=>ret .none) (fun fin s'=>∃r,fin = .done (.ret r)∧Q () s') E s₁:=by
  rintro _ rfl
  rw[e1,e2]
  have ef:b.toArray.extract 0 (cL b.length lo)++d.toArray++b.toArray.extract (max (cL b.length lo) (d9 b.length hi)) b.toArray.size=(b.take (cL b.length lo)++d++b.drop (max (cL b.length lo) (d9 b.length hi))).toArray:=by
   apply Array.toList_inj.mp
   simp[List.take_of_length_le]
  refine ae (bn (dI (k _ _ h) ?_ fun h' e' k'=>ak ⟨_,rfl,?_⟩))
  ·rw[ef]
   have:=uU b.length lo
   simp
   omega
  ·rw[ef] at e'
   exact hq h' e' fun x o hx ho=>k' x o hx (k x o ho)
 exact tS (ae (ff (k _ _ h) (fin _ rfl))) (fin _ rfl)
end
end By
end
section
namespace By
section
variable {prog:Program} {w:World} {A:Around} {E:Value→Shared→Prop} {s:Shared}
theorem j6:typeLookup (.type "bytearray") "__bytes__" = pure none:=by rw[typeLookup_type,builtinLookup_eq_fast];kernel_rfl
theorem oW:typeLookup (.type "bytearray") "__index__" = pure none:=by rw[typeLookup_type,builtinLookup_eq_fast];kernel_rfl
theorem bytes_of_ba (h:s.heap.get? a=some (ba b)) (hz:b.size≤sizeLine) (hq:∀t k,Q (.bytes b t) { s with toks:=k }):wpAny (model prog w) A (call (.type "bytes") [.ref a]) Q E s:=by
 have hT:=typeIs h
 refine callType_codes (Q₁:=fun obj s₁=>s₁.TypeIs obj "bytes" ∧ Q obj s₁) F.bm_called (F.bm_typeCall _) F.entry_object_init ?_ fun obj s₁ h₁=>⟨h₁.1,F.args_object_init_2 obj _,object_init_meets F.bm_called.init.lookup F.bm_called.made (by decide) prog w A.in1 _ s₁ ⟨h₁.1,rfl,h₁.2⟩⟩
 refine codeAny_of_tree ?_
 show wpAny _ A.in1.in1 (do checkBuiltinCall "bytes.__new__" ⟨[.type "bytes",.ref a],[]⟩;again (.builtin "bytes.__new__" ⟨[.type "bytes",.ref a],[]⟩)) _ _ s
 refine wpAny_bind (wpAny_of_eq (F.bm_newCall _) (wpAny_pure ⟨plainId_quiet F.bm_plain _,codeAny_builtin F.bm_entry ?_⟩))
 rw[Around.under_plainId F.bm_plain _]
 unfold Builtin.«bytes.__new__»
 refine wpAny_bind (wpAny_of_eq (a:=true) rfl ?_)
 refine bm_if_false rfl ?_
 refine wpAny_bind (wpAny_of_eq F.bm_sub ?_)
 refine bm_if_false rfl ?_
 refine wpAny_bind (wpAny_of_eq (F.bm_bind _) ?_)
 refine wpAny_bind (wpAny_of_eq (a:=()) rfl ?_)
 refine wpAny_bind (wpAny_of_eq (a:=()) rfl ?_)
 refine bm_if_false rfl ?_
 refine wpAny_bind (wpAny_specialOf hT j6 ?_)
 refine wpAny_bind (wpAny_bind ?_)
 show wpAny _ _ (load a >>= _) _ _ _
 refine wpAny_bind (wpAny_load h ?_)
 refine wpAny_pure (wpAny_pure ?_)
 refine bm_if_false rfl ?_
 refine wpAny_bind (wpAny_specialOf hT oW ?_)
 refine bm_if_true rfl ?_
 refine wpAny_bind (sL h ?_)
 dsimp only
 refine wpAny_bind (wpAny_rule ?_)
 refine wpAny_bind (wpAny_mkBytes ?_ hz)
 show wpAny _ _ (if (Value.type "bytes" == Value.type "bytes")=true then _ else _) _ _ _
 refine bm_if_true (by decide) ?_
 first
  | exact wpAny_pure ⟨typeIs_bytes _ _ _,hq _ _⟩
  | exact wpAny_bind (wpAny_pure (wpAny_pure ⟨typeIs_bytes _ _ _,hq _ _⟩))
noncomputable def le:List UInt8→Int
 | []=>0
 | c::r=>c.toNat+256*le r
theorem uC:∀b:List UInt8,KFB.value (b.map fun c=>((c.toNat:Nat):Int)).reverse=le b:=fun b=>by
 unfold KFB.value
 rw[List.foldl_reverse]
 induction b with
 | nil=>rfl
 | cons c r ih=>rw[List.map_cons,List.foldr_cons,ih];show _=(c.toNat:Int)+256*le r;lia
theorem sk (h:s.heap.get? a=some (ba b.toArray)) (hl:b.length≤8) (hp:P (.done (.ret (.int (le b) s.toks))) { s with toks:=s.toks+1 }) :
  wpAny (model prog w) A (Builtin.«int.from_bytes» ⟨[.type "int",.ref a,.str (PySem.Str.ofString "little") u],[]⟩) P E s:=by
 have hT:=typeIs h
 have hv:((b.reverse.foldl (fun(acc:Nat) (b:UInt8)=>acc*256+b.toNat) 0:Nat):Int)=le b:=by
  rw[KFB.fold_cast,List.map_reverse]
  exact uC b
 have hn:b.reverse.foldl (fun(acc:Nat) (b:UInt8)=>acc*256+b.toNat) 0 < 2 ^ 64:=by
  have h1:=KFB.fold_lt b.reverse 0
  rw[Nat.zero_add,Nat.one_mul,List.length_reverse] at h1
  have h2:256 ^ b.length≤256 ^ 8:=Nat.pow_le_pow_right (by decide) hl
  exact q2 1 0 0 18446744073709551616 1 18446744073709551616 h1 h2 rfl
 unfold Builtin.«int.from_bytes»
 refine wpAny_bind (wpAny_of_eq (a:=true) KFB.type_int ?_)
 refine KFB.if_not rfl ?_
 refine wpAny_bind (wpAny_of_eq (a:=true) F.conv_sub_int ?_)
 refine KFB.if_not rfl ?_
 refine wpAny_bind (wpAny_of_eq (a:=[some (.ref a),some (.str (PySem.Str.ofString "little") u),none]) (by kernel_rfl) ?_)
 refine wpAny_bind (wpAny_of_eq (a:=PySem.Str.ofString "little") (by kernel_rfl) ?_)
 refine wpAny_bind (wpAny_of_eq (a:=false) rfl ?_)
 refine wpAny_bind (wpAny_of_eq (a:=true) (by kernel_rfl) ?_)
 refine wpAny_bind (m:=(_:Sem (Array UInt8))) (Q:=_) (wpAny_mono (Q:=fun r s'=>r=b.toArray∧s'=s) (E:=fun _ _=>False) ?_ (fun r s' hr=>?_) fun _ _ e=>e.elim)
 ·refine wpAny_bind (wpAny_specialOf hT j6 ?_)
  dsimp only
  refine wpAny_bind (wpAny_bind (wpAny_load h (wpAny_pure ?_)))
  rw[if_pos (by rfl)]
  refine wpAny_bind (wpAny_specialOf hT iw ?_)
  refine wpAny_bind (wpAny_specialOf hT kP ?_)
  refine wpAny_bind (wpAny_isInstance hT sub_self ?_)
  rw[if_neg (by simp)]
  refine wpAny_bind (wpAny_bind (wpAny_load h (wpAny_pure ?_)))
  exact wpAny_pure ⟨rfl,rfl⟩
 ·(refine bD hr fun zz1 zz2=>?_;clear hr;subst zz1;subst zz2)
  show wpAny _ _ (mkIntGrown (b.reverse.foldl (fun(acc:Int) (b:UInt8)=>acc*256+(b.toNat:Int)) ((0:Nat):Int)) >>= fun v=>_) _ _ _
  rw[KFB.foldI_eq]
  refine wpAny_bind (KFB.grown hn ?_)
  rw[hv]
  refine KFB.if_so (by decide +kernel) ?_
  exact wpAny_bind (wpAny_pure (wpAny_pure hp))
theorem uY:checkBoundCall "int.from_bytes" ⟨[.type "int",.ref a,.str o u],[]⟩=pure ():=by first | kernel_rfl | rfl
theorem call_from (ho:s.heap.get? x=some KFB.bound) (h:s.heap.get? a=some (ba b.toArray)) (hl:b.length≤8)
  (hq:Q (.int (le b) s.toks) { s with toks:=s.toks+1 }):wpAny (model prog w) A (call (.ref x) [.ref a,.str (PySem.Str.ofString "little") u]) Q E s:=by
 refine wpAny_call (codeAny_of_tree ?_)
 show wpAny _ A.in1 (callAny (.ref x) ⟨[.ref a,.str (PySem.Str.ofString "little") u],[]⟩) _ _ s
 simp only[callAny]
 refine wpAny_bind (wpAny_load ho ?_)
 simp only[KFB.bound,show (Value.type "builtin_function_or_method" == Value.type "method" || Value.type "builtin_function_or_method" == Value.type "builtin_function_or_method" || Value.type "builtin_function_or_method" == Value.type "method-wrapper")=true by decide,if_true]
 refine KFB.if_so (by decide) ?_
 refine wpAny_bind (wpAny_of_eq (a:=()) uY ?_)
 refine wpAny_bind (wpAny_pure (wpAny_pure ?_))
 exact⟨KFB.quiet_fb,codeAny_builtin KFB.entry_fb (sk h hl hq)⟩
theorem getm_fb (hq:Q (.ref s.heap.objs.size,[]) { s with heap:=s.heap.push KFB.bound,toks:=s.toks+1 }) :
  wpAny (model prog w) A (getMethod (.type "int") (PySem.Str.ofString "from_bytes") pl) Q E s:=by
 have X:Frag.In [] s.heap:=fun a o e=>by cases e
 have e:findCls [] (.type "int") (.type "type") (PySem.Str.ofString "from_bytes")=some (.get (.builtin "classmethod_descriptor.__get__") (.builtin "int.from_bytes") .none (.type "int")):=by first | rfl | kernel_rfl
 have hstub:opaqueClassAbove (.type "int")=pure none:=by unfold opaqueClassAbove;dsimp only;rw[show Manifest.isStub "int" = false by decide +kernel];rfl
 have ht:typeOf (.type "int")=pure (.type "type"):=by first | rfl | kernel_rfl
 have hg:findIn [] (.type "type") "__getattribute__" = some (some (.builtin "type.__getattribute__")):=type_tga
 unfold getMethod specialOf
 refine wpAny_bind (wpAny_bind ((Looks.of_pure ht).here ((looks_findIn X hg).here ?_)))
 dsimp only
 rw[if_pos canon_tga]
 refine wpAny_bind (wpAny_mono (Q:=fun v=>Q (v,[])) (E:=E) ?_ (fun _ _ z=>wpAny_pure z) fun _ _ z=>z)
 refine cls_open X (Looks.of_pure hstub) (Looks.of_pure ht) hg (looks_hook X (r:=none) (by rfl)) (by show subIn [] _ _=_;rfl) e ?_
 show wpAny _ _ (holding [.builtin "int.from_bytes"] (call (.builtin "classmethod_descriptor.__get__") [.builtin "int.from_bytes",.none,.type "int"]) >>= fun v=>ret v) _ _ _
 exact wpAny_bind (wpAny_holding (wpAny_call_entry KFB.slot_get KFB.type_fb KFB.entry_get (KFB.run_get ⟨_,rfl,wpAny_pure (wpAny_pure hq)⟩) (KFB.args_get _ _ _)))
end
end By
end
section
noncomputable def frs (A:Around):List Addr:=match A.frames with
 | some fs=>fs.filterMap (·.frame)
 | none=>[]
def FrsOk (g:Heap) (π:PM) (σ:LA) (h:Heap) (fs:List Env):Prop :=
 ∀f∈fs,f.scope.kind ≠ .module∧∃L o,f.frame=some L∧h.get? L=some o∧(∀vs,o.data ≠ .fields vs)∧g.get? L=none∧¬Tr π σ L
structure StC (g:Heap) (A:Around) (σ:List AO) (π:PM) (s:Shared):Prop where
 keepg:∀b o,g.get? b=some o→s.heap.get? b=some o
 rep:Rep g π σ s.heap
 frs:∃fs,A.frames=some fs∧FrsOk g π σ s.heap fs
structure Fwd (A:Around) (X:Addr→Prop) (σ:List AO) (π:PM) (s:Shared) (σ':List AO) (π':PM) (s':Shared):Prop where
 ext:π.Ext π' σ.length
 len:σ.length≤σ'.length
 kept:∀b o,¬Tr π σ b→¬X b→s.heap.get? b=some o→(b ∉ frs A→s'.heap.get? b=some o)∧∃sl,s'.heap.get? b=some { o with slots:=sl }
 fresh:∀b,Tr π' σ' b→Tr π σ b∨s.heap.get? b=none
 stay:∀b,Tr π σ b→Tr π' σ' b
 os:s'.os=s.os
 gens:s'.gens=s.gens
abbrev cG:Addr→Prop:=fun _=>False
theorem Fwd.trans {A:Around} {X:Addr→Prop} {σ₁ σ₂ σ₃:LA} {π₁ π₂ π₃:PM} {s₁ s₂ s₃:Shared} (x:Fwd A X σ₁ π₁ s₁ σ₂ π₂ s₂) (y:Fwd A X σ₂ π₂ s₂ σ₃ π₃ s₃)
  (hX:∀b,X b→¬Tr π₃ σ₃ b):Fwd A X σ₁ π₁ s₁ σ₃ π₃ s₃ where
 ext:=x.ext.trans y.ext x.len
 len:=Nat.le_trans x.len y.len
 kept:=fun b o h1 h2 h3=>by
  (refine hZ (x.kept b o h1 h2 h3) fun a1 sl a2=>?_)
  have h4:¬Tr π₂ σ₂ b:=fun q=>by
   rcases x.fresh b q with q | q
   ·exact h1 q
   ·rw[h3] at q;cases q
  (refine hZ (y.kept b _ h4 h2 a2) fun b1 sl' b2=>?_)
  refine⟨fun hb=>?_,sl',b2⟩
  exact(y.kept b o h4 h2 (a1 hb)).1 hb
 fresh:=fun b h=>by
  rcases y.fresh b h with q | q
  ·exact x.fresh b q
  ·by_cases h1:Tr π₁ σ₁ b
   ·exact .inl h1
   ·right
    cases h3:s₁.heap.get? b with
    | none=>rfl
    | some o =>
     (refine hZ (x.kept b o h1 (fun h2=>hX b h2 h) h3) fun _ sl a2=>?_)
     rw[q] at a2;cases a2
 stay:=fun b t=>y.stay b (x.stay b t)
 os:=y.os.trans x.os
 gens:=y.gens.trans x.gens
theorem Fwd.transN (x:Fwd A cG σ₁ π₁ s₁ σ₂ π₂ s₂) (y:Fwd A cG σ₂ π₂ s₂ σ₃ π₃ s₃):Fwd A cG σ₁ π₁ s₁ σ₃ π₃ s₃ :=
 x.trans y fun _ h=>h.elim
theorem Fwd.widen (x:Fwd A X σ π s σ' π' s') (h:∀b,X b→Y b):Fwd A Y σ π s σ' π' s' :=
 ⟨x.ext,x.len,fun b o h1 h2 h3=>x.kept b o h1 (fun q=>h2 (h b q)) h3,x.fresh,x.stay,x.os,x.gens⟩
theorem Tr.ext (e:π.Ext π' σ.length):Tr π' σ b↔Tr π σ b:=by
 constructor
 ·rintro ⟨i,o,h1,h2⟩
  exact⟨i,o,h1,by rwa[cI e (List.getElem?_eq_some_iff.mp h1).1] at h2⟩
 ·rintro ⟨i,o,h1,h2⟩
  exact⟨i,o,h1,by rwa[cI e (List.getElem?_eq_some_iff.mp h1).1]⟩
theorem StC.keeps (S:StC g A σ π s) (hk:∀b o,s.heap.get? b=some o→s'.heap.get? b=some o) (os:s'.os=s.os) (gens:s'.gens=s.gens) :
  StC g A σ π s'∧Fwd A X σ π s σ π s':=by
 refine⟨⟨fun b o e=>hk b o (S.keepg b o e),⟨fun i o h=>(S.rep.at_ i o h).mono (.refl ..) (Nat.le_refl _) (List.getElem?_eq_some_iff.mp h).1 fun b _ ob e=>hk b ob e,S.rep.sep,S.rep.new⟩,?_⟩,⟨.refl ..,Nat.le_refl _,fun b o _ _ e=>⟨fun _=>hk b o e,o.slots,hk b o e⟩,fun b h => .inl h,fun _ t=>t,os,gens⟩⟩
 (refine aF (S.frs) fun fs h1 h2=>?_)
 exact⟨fs,h1,fun f hf=>let ⟨k,L,o,a,b,c,d,e⟩:=h2 f hf;⟨k,L,o,a,hk _ _ b,c,d,e⟩⟩
theorem StC.toks (S:StC g A σ π s) (t:Nat):StC g A σ π { s with toks:=t }∧Fwd A X σ π s σ π { s with toks:=t } :=
 S.keeps (fun _ _ e=>e) rfl rfl
theorem StC.alloc (S:StC g A σ π s) (x dx:Addr)
  (hk:∀b o,s.heap.get? b=some o→s'.heap.get? b=some o) (hx:s.heap.get? x=none) (hdx:s.heap.get? dx=none)
  (hr:∀π':PM,π.Ext π' σ.length→π'.a σ.length=x→π'.d σ.length=dx→ORep π' (σ.length+1) s'.heap σ.length ao) (os:s'.os=s.os) (gens:s'.gens=s.gens) :
  ∃π':PM,StC g A (σ++[ao]) π' s'∧Fwd A X σ π s (σ++[ao]) π' s'∧π'.a σ.length=x∧π'.d σ.length=dx:=by
 let π':PM:=⟨fun i=>if i=σ.length then x else π.a i,fun i=>if i=σ.length then dx else π.d i⟩
 have e:π.Ext π' σ.length:=⟨fun i hi=>if_neg (Nat.ne_of_lt hi),fun i hi=>if_neg (Nat.ne_of_lt hi)⟩
 have ex:π'.a σ.length=x:=if_pos rfl
 have ed:π'.d σ.length=dx:=if_pos rfl
 have newown:∀b∈own π' σ.length ao,b=x∨b=dx:=fun b hb=>by
  cases ao<;>simp only[own,ex,ed,List.mem_cons,List.not_mem_nil,or_false] at hb<;>first | exact hb | exact .inl hb | exact hb.elim
 have isnew:∀b∈own π' σ.length ao,s.heap.get? b=none:=fun b hb=>by
  rcases newown b hb with rfl | rfl
  ·exact hx
  ·exact hdx
 have oldown:∀i o b,σ[i]? = some o→b∈own π i o→∃ob,s.heap.get? b=some ob:=fun i o b hi hb=>S.rep.there ⟨i,o,hi,hb⟩
 have getI:∀i o,(σ++[ao])[i]? = some o→(σ[i]? = some o∧i < σ.length)∨(i=σ.length∧o=ao):=fun i o h=>by
  by_cases hi:i < σ.length
  ·rw[List.getElem?_append_left hi] at h;exact .inl ⟨h,hi⟩
  ·rw[List.getElem?_append_right (Nat.le_of_not_lt hi)] at h
   cases hd:i - σ.length with
   | zero=>rw[hd] at h;exact .inr ⟨by lia,(Option.some.inj h).symm⟩
   | succ k=>rw[hd] at h;simp at h
 have trI:∀b,Tr π' (σ++[ao]) b→Tr π σ b∨s.heap.get? b=none:=fun b ⟨i,o,h1,h2⟩=>by
  rcases getI i o h1 with⟨h,hi⟩ | ⟨rfl,rfl⟩
  ·exact .inl ⟨i,o,h,by rwa[cI e hi] at h2⟩
  ·exact .inr (isnew b h2)
 refine⟨π',⟨fun b o q=>hk b o (S.keepg b o q),⟨fun i o h=>?_,fun i j o o' b h1 h2 h3 h4=>?_,fun i o b h1 h2=>?_⟩,?_⟩,⟨e,by simp,fun b o _ _ q=>⟨fun _=>hk b o q,o.slots,hk b o q⟩,trI,fun b ⟨i,o,h1,h2⟩=>⟨i,o,by rw[List.getElem?_append_left (List.getElem?_eq_some_iff.mp h1).1];exact h1,by rw[cI e (List.getElem?_eq_some_iff.mp h1).1];exact h2⟩,os,gens⟩,ex,ed⟩
 ·rw[List.length_append,List.length_singleton]
  rcases getI i o h with⟨h,hi⟩ | ⟨rfl,rfl⟩
  ·exact(S.rep.at_ i o h).mono e (Nat.le_succ _) hi fun b _ ob q=>hk b ob q
  ·exact hr π' e ex ed
 ·rcases getI i o h1 with⟨u1,hi⟩ | ⟨hi,ho⟩<;>rcases getI j o' h2 with⟨u2,hj⟩ | ⟨hj,ho'⟩
  ·rw[cI e hi] at h3;rw[cI e hj] at h4;exact S.rep.sep i j o o' b u1 u2 h3 h4
  ·rw[cI e hi] at h3
   subst hj ho'
   (refine b8 (oldown i o b u1 h3) fun ob q=>?_)
   rw[isnew b h4] at q;cases q
  ·rw[cI e hj] at h4
   subst hi ho
   (refine b8 (oldown j o' b u2 h4) fun ob q=>?_)
   rw[isnew b h3] at q;cases q
  ·rw[hi,hj]
 ·rcases getI i o h1 with⟨h1,hi⟩ | ⟨rfl,rfl⟩
  ·rw[cI e hi] at h2;exact S.rep.new i o b h1 h2
  ·cases q:g.get? b with
   | none=>rfl
   | some ob=>have:=S.keepg b ob q;rw[isnew b h2] at this;cases this
 ·(refine aF (S.frs) fun fs h1 h2=>?_)
  refine⟨fs,h1,fun f hf=>?_⟩
  (refine df (h2 f hf) fun k L o a b c d q=>?_)
  refine⟨k,L,o,a,hk _ _ b,c,d,fun t=>?_⟩
  rcases trI L t with t | t
  ·exact q t
  ·rw[b] at t;cases t
theorem StC.update (S:StC g A σ π s) (hi:σ[i]? = some o) (ho:own π i o'=own π i o)
  (hk:∀b ob,b ∉ own π i o→s.heap.get? b=some ob→s'.heap.get? b=some ob) (hr:ORep π σ.length s'.heap i o') (os:s'.os=s.os) (gens:s'.gens=s.gens) :
  StC g A (σ.set i o') π s'∧Fwd A X σ π s (σ.set i o') π s':=by
 have hlt:=(List.getElem?_eq_some_iff.mp hi).1
 have getI:∀j p,(σ.set i o')[j]? = some p→(σ[j]? = some p∧j≠i)∨(j=i∧p=o'):=fun j p h=>by
  by_cases e:j=i
  ·subst e;rw[List.getElem?_set_self hlt] at h;exact .inr ⟨rfl,(Option.some.inj h).symm⟩
  ·rw[List.getElem?_set_ne (Ne.symm e)] at h;exact .inl ⟨h,e⟩
 have ownI:∀j p b,(σ.set i o')[j]? = some p→b∈own π j p→∃q,σ[j]? = some q∧b∈own π j q:=fun j p b h hb=>by
  rcases getI j p h with⟨h,_⟩ | ⟨rfl,rfl⟩
  ·exact⟨p,h,hb⟩
  ·exact⟨o,hi,ho ▸ hb⟩
 have trI:∀b,Tr π (σ.set i o') b→Tr π σ b:=fun b ⟨j,p,h,hb⟩=>let ⟨q,h1,h2⟩:=ownI j p b h hb;⟨j,q,h1,h2⟩
 have kO:∀b ob,¬Tr π σ b→s.heap.get? b=some ob→s'.heap.get? b=some ob:=fun b ob h1 h2=>hk b ob (fun q=>h1 ⟨i,o,hi,q⟩) h2
 refine⟨⟨fun b ob e=>hk b ob (fun q=>by rw[S.rep.new i o b hi q] at e;cases e) (S.keepg b ob e),⟨fun j p h=>?_,fun j k p p' b h1 h2 h3 h4=>?_,fun j p b h hb=>?_⟩,?_⟩,
  ⟨.refl ..,by simp,fun b ob h1 _ h3=>⟨fun _=>kO b ob h1 h3,ob.slots,kO b ob h1 h3⟩,fun b h => .inl (trI b h),fun b ⟨j,p,h1,h2⟩=>(by
   by_cases e:j=i
   ·subst e;rw[hi] at h1;cases h1;exact⟨j,o',List.getElem?_set_self hlt,by rw[ho];exact h2⟩
   ·exact⟨j,p,(List.getElem?_set_ne (Ne.symm e)).trans h1,h2⟩),os,gens⟩⟩
 ·rw[List.length_set]
  rcases getI j p h with⟨h,hne⟩ | ⟨rfl,rfl⟩
  ·exact(S.rep.at_ j p h).mono (.refl ..) (Nat.le_refl _) (List.getElem?_eq_some_iff.mp h).1 fun b hb ob e=>hk b ob (fun q=>hne (S.rep.sep j i p o b h hi hb q)) e
  ·exact hr
 ·(refine aF (ownI j p b h1 h3) fun q a1 a2=>?_)
  (refine aF (ownI k p' b h2 h4) fun q' b1 b2=>?_)
  exact S.rep.sep j k q q' b a1 b1 a2 b2
 ·(refine aF (ownI j p b h hb) fun q a1 a2=>?_)
  exact S.rep.new j q b a1 a2
 ·(refine aF (S.frs) fun fs h1 h2=>?_)
  refine⟨fs,h1,fun f hf=>?_⟩
  (refine df (h2 f hf) fun k L ob a b c d q=>?_)
  exact⟨k,L,ob,a,kO _ _ q b,c,d,fun t=>q (trI L t)⟩
end
section
structure Gd where
 prog:Program
 w:World
 g:Heap
noncomputable abbrev Gd.M (G:Gd):Model:=model G.prog G.w
structure Fx where
 A:Around
 env:Env
 cl:List (Str×Nat)
structure St (G:Gd) (F:Fx) (lv:List (Str×AV)) (σ:List AO) (π:PM) (s:Shared):Prop where
 c:StC G.g F.A σ π s
 loc:∃m,s.heap.Ns F.env.locals m∧LvR π σ.length lv m
 gL:G.g.get? F.env.locals=none
 trL:¬Tr π σ F.env.locals
 cells:F.env.cells=F.cl.map (fun p=>(p.1,π.a p.2))∧∀p∈F.cl,p.2 < σ.length
abbrev tJ (G:Gd) (A:Around) (σ:List AO) (π:PM) (s:Shared) (r:AV) (σ':List AO) (Q:Value→Shared→Prop):Prop :=
 ∀π' s' v,StC G.g A σ' π' s'→Fwd A cG σ π s σ' π' s'→VR π' σ'.length r v→Q v s'
def wJ (G:Gd) (A:Around) (σ:List AO) (t:Value→Sem Value) (a r:AV) (σ':List AO):Prop :=
 ∀π s v,StC G.g A σ π s→VR π σ.length a v→∀Q E,tJ G A σ π s r σ' Q→aS G.M A (t v) Q E s
def fy (G:Gd) (A:Around) (σ:List AO) (t:Value→Value→Sem Value) (a b r:AV) (σ':List AO):Prop :=
 ∀π s v u,StC G.g A σ π s→VR π σ.length a v→VR π σ.length b u→∀Q E,tJ G A σ π s r σ' Q→aS G.M A (t v u) Q E s
def DY (G:Gd) (A:Around) (σ:List AO) (t:List Value→Sem Value) (as:List AV) (r:AV) (σ':List AO):Prop :=
 ∀π s vs,StC G.g A σ π s→VRs π σ.length as vs→∀Q E,tJ G A σ π s r σ' Q→aS G.M A (t vs) Q E s
def tC (G:Gd) (A:Around) (σ:List AO) (t:Value→Value→Value→Sem Unit) (a b c:AV) (σ':List AO):Prop :=
 ∀π s v u x,StC G.g A σ π s→VR π σ.length a v→VR π σ.length b u→VR π σ.length c x→∀ (Q:Unit→Shared→Prop) E,
  (∀π' s',StC G.g A σ' π' s'→Fwd A cG σ π s σ' π' s'→Q () s')→aS G.M A (t v u x) Q E s
def xy (G:Gd) (A:Around) (σ:List AO) (a:AV) (b:Bool) (σ':List AO):Prop :=
 ∀π s v,StC G.g A σ π s→VR π σ.length a v→∀ (Q:Bool→Shared→Prop) E,(∀π' s',StC G.g A σ' π' s'→Fwd A cG σ π s σ' π' s'→Q b s')→aS G.M A (truthy v) Q E s
def Cl (G:Gd) (A:Around) (σ:List AO) (f:AV) (as:List AV) (r:AV) (σ':List AO):Prop :=
 ∀π s fv vs,StC G.g A σ π s→VR π σ.length f fv→VRs π σ.length as vs→∀Q E,tJ G A σ π s r σ' Q→aS G.M A (call fv vs []) Q E s
def Ev (G:Gd) (F:Fx) (lv:List (Str×AV)) (σ:List AO) (e:Expr) (r:AV) (σ':List AO):Prop :=
 ∀π s,St G F lv σ π s→∀Q E,tJ G F.A σ π s r σ' Q→aS G.M F.A (eval e F.env) Q E s
def tR (G:Gd) (F:Fx) (lv:List (Str×AV)) (σ:List AO) (es:List Expr) (rs:List AV) (σ':List AO):Prop :=
 ∀p π s,St G F lv σ π s→∀ (Q:List Value→Shared→Prop) E,(∀π' s' vs,StC G.g F.A σ' π' s'→Fwd F.A cG σ π s σ' π' s'→VRs π' σ'.length rs vs→Q vs s') →
  aS G.M F.A (spliced (backTo p (starEach es F.env))) Q E s
def Ts (G:Gd) (F:Fx) (lv:List (Str×AV)) (σ:List AO) (e:Expr) (b:Bool) (σ':List AO):Prop :=
 ∀π s,St G F lv σ π s→∀ (Q:Bool→Shared→Prop) E,(∀π' s',StC G.g F.A σ' π' s'→Fwd F.A cG σ π s σ' π' s'→Q b s')→aS G.M F.A (isTrue e F.env (eval e F.env)) Q E s
inductive AFl where
 | next | brk | cont | ret (a:AV)
abbrev KF:=AFl→LV→LA→Prop
noncomputable def C3 (π:PM) (n:Nat):AFl→Flow→Prop
 | .next,f=>f = .next
 | .brk,f=>f = .brk
 | .cont,f=>f = .cont
 | .ret a,f=>∃v,f = .ret v∧VR π n a v
abbrev yP (G:Gd) (F:Fx) (σ:List AO) (π:PM) (s:Shared) (f:AFl) (lv':List (Str×AV)) (σ':List AO) (Q:Flow→Shared→Prop):Prop :=
 ∀π' s' fl,St G F lv' σ' π' s'→Fwd F.A (·=F.env.locals) σ π s σ' π' s'→C3 π' σ'.length f fl→Q fl s'
def ou (G:Gd) (F:Fx) (lv:List (Str×AV)) (σ:List AO) (st:Stmt) (f:AFl) (lv':List (Str×AV)) (σ':List AO):Prop :=
 ∀π s,St G F lv σ π s→∀Q E,yP G F σ π s f lv' σ' Q→aS G.M F.A (exec st F.env) Q E s
def Ex (G:Gd) (F:Fx) (lv:List (Str×AV)) (σ:List AO) (st:List Stmt) (f:AFl) (lv':List (Str×AV)) (σ':List AO):Prop :=
 ∀π s,St G F lv σ π s→∀Q E,yP G F σ π s f lv' σ' Q→aS G.M F.A (execs st F.env) Q E s
def As (G:Gd) (F:Fx) (lv:List (Str×AV)) (σ:List AO) (t:Expr) (a:AV) (lv':List (Str×AV)) (σ':List AO):Prop :=
 ∀π s v,St G F lv σ π s→VR π σ.length a v→∀ (Q:Unit→Shared→Prop) E,
  (∀π' s',St G F lv' σ' π' s'→Fwd F.A (·=F.env.locals) σ π s σ' π' s'→Q () s')→aS G.M F.A (assign t F.env v) Q E s
section
variable {G:Gd} {F:Fx} {lv lv' lv'':List (Str×AV)} {σ σ' σ'' σ₁ σ₂ σ₃ σ₄:List AO} {π π':PM} {s s':Shared}
theorem St.fwd (S:St G F lv σ π s) (C:StC G.g F.A σ' π' s') (W:Fwd F.A cG σ π s σ' π' s'):St G F lv σ' π' s':=by
 (refine aF (S.loc) fun m zz1 h4=>?_;refine cQ zz1 fun o es ep h1 h2 h3=>?_;clear zz1)
 (refine hZ (W.kept _ _ S.trL id h1) fun _ sl h5=>?_)
 refine⟨C,⟨m,⟨_,es,ep,h5,h2,h3⟩,h4.mono W.ext W.len⟩,S.gL,fun q=>?_,?_,fun p hp=>Nat.lt_of_lt_of_le (S.cells.2 p hp) W.len⟩
 ·rcases W.fresh _ q with q | q
  ·exact S.trL q
  ·rw[h1] at q;cases q
 ·rw[S.cells.1]
  exact List.map_congr_left fun p hp=>by rw[W.ext.a _ (S.cells.2 p hp)]
theorem St.transX (S:St G F lv σ' π' s') (hX:∀b,X b→b=F.env.locals) (x:Fwd A X σ₁ π₁ s₁ σ π s) (y:Fwd A X σ π s σ' π' s'):Fwd A X σ₁ π₁ s₁ σ' π' s' :=
 x.trans y fun b h=>by rw[hX b h];exact S.trL
theorem St.transL (S:St G F lv σ' π' s') (x:Fwd F.A (·=F.env.locals) σ₁ π₁ s₁ σ π s) (y:Fwd F.A (·=F.env.locals) σ π s σ' π' s'):Fwd F.A (·=F.env.locals) σ₁ π₁ s₁ σ' π' s' :=
 S.transX (fun _ h=>h) x y
theorem Fwd.toX (x:Fwd A cG σ π s σ' π' s'):Fwd A X σ π s σ' π' s':=x.widen fun _ h=>h.elim
def Wk (lv lv':List (Str×AV)):Prop:=∀x,lv'.lookup x=some .unk∨lv'.lookup x=lv.lookup x
theorem Wk.refl (lv:List (Str×AV)):Wk lv lv:=fun _ => .inr rfl
theorem LvR.wk (x:LvR π n lv m) (w:Wk lv lv'):LvR π n lv' m:=fun y=>by
 rcases w y with h | h
 ·rw[h];exact fun q=>(q rfl).elim
 ·rw[h];exact x y
theorem St.wk (S:St G F lv σ π s) (w:Wk lv lv'):St G F lv' σ π s:=⟨S.c,let ⟨m,h1,h2⟩:=S.loc;⟨m,h1,h2.wk w⟩,S.gL,S.trL,S.cells⟩
theorem Wk.zip:∀ {ns:List Str} {as bs:List AV},as.length=bs.length→(∀i:Nat,bs[i]? = some AV.unk∨bs[i]? = as[i]?)→Wk (ns.zip as) (ns.zip bs)
 | [],_,_,_,_=>fun x=>by simp
 | n::ns,[],[],_,_=>fun x=>by simp
 | n::ns,a::as,b::bs,hl,h=>fun x=>by
  simp only[List.zip_cons_cons,List.lookup_cons]
  cases hq:x==n with
  | true=>have:=h 0;simp at this;rcases this with q | q<;>simp[q]
  | false=>exact Wk.zip (ns:=ns) (by simpa using hl) (fun i=>by have:=h (i+1);simpa using this) x
noncomputable def put (x:Str) (a:AV) (lv:List (Str×AV)):List (Str×AV):=match lv with
 | []=>[(x,a)]
 | (y,b)::r=>if y=x then (y,a)::r else (y,b)::put x a r
theorem ge (x y:Str) (a:AV):∀lv:List (Str×AV),(put x a lv).lookup y=if y=x then some a else lv.lookup y
 | []=>by
  simp only[put,List.lookup_cons,List.lookup_nil]
  by_cases h:y=x
  ·subst h;simp
  ·rw[if_neg h,show (y==x)=false from beq_eq_false_iff_ne.mpr h]
 | (z,b)::r=>by
  unfold put
  by_cases hz:z=x
  ·subst hz
   rw[if_pos rfl]
   simp only[List.lookup_cons]
   by_cases h:y=z
   ·subst h;simp
   ·rw[if_neg h,show (y==z)=false from beq_eq_false_iff_ne.mpr h]
  ·rw[if_neg hz]
   simp only[List.lookup_cons]
   by_cases h:y=z
   ·subst h;rw[if_neg hz];simp
   ·rw[show (y==z)=false from beq_eq_false_iff_ne.mpr h]
    exact ge x y a r
theorem dZ (S:St G F lv σ π s) (hv:VR π σ.length a v) (hk:F.env.scope.kind = .function) (hl:F.env.kindOf x=some .local)
  (hQ:∀s',St G F (put x a lv) σ π s'→Fwd F.A (·=F.env.locals) σ π s σ π s'→Q () s'):wpAny G.M F.A (storeName F.env x v) Q E s:=by
 (refine aF (S.loc) fun m h1 h2=>?_)
 refine wpAny_storeName_local hl h1 (fun h' hn hb=>?_) (by rw[hk];rfl)
 have hkeep:∀b o,b≠F.env.locals→s.heap.get? b=some o→h'.get? b=some o:=fun b o hne e=>(hb.2 b hne).trans e
 have C:StC G.g F.A σ π { s with heap:=h',toks:=s.toks+1 }:=by
  refine⟨fun b o e=>hkeep b o (fun q=>by rw[q,S.gL] at e;cases e) (S.c.keepg b o e),⟨fun i o h=>(S.c.rep.at_ i o h).mono (.refl ..) (Nat.le_refl _) (List.getElem?_eq_some_iff.mp h).1 fun b hb' ob e=>hkeep b ob (fun q=>S.trL (q ▸ ⟨i,o,h,hb'⟩)) e,S.c.rep.sep,S.c.rep.new⟩,?_⟩
  (refine aF (S.c.frs) fun fs f1 f2=>?_)
  refine⟨fs,f1,fun f hf=>?_⟩
  (refine df (f2 f hf) fun k L o a1 b1 c1 d1 e1=>?_)
  by_cases hL:L=F.env.locals
  ·(refine cQ hn fun o' es ep g1 g2 _=>?_;clear hn)
   exact⟨k,L,o',a1,by rw[hL];exact g1,(fun vs q=>by rw[g2] at q;cases q),d1,e1⟩
  ·exact⟨k,L,o,a1,hkeep _ _ hL b1,c1,d1,e1⟩
 refine hQ _ ⟨C,⟨_,hn,fun y=>?_⟩,S.gL,S.trL,S.cells⟩ ⟨.refl ..,Nat.le_refl _,fun b o _ hb' e=>⟨fun _=>hkeep b o hb' e,o.slots,hkeep b o hb' e⟩,fun b h => .inl h,fun _ t=>t,rfl,rfl⟩
 rw[ge]
 by_cases hy:y=x
 ·rw[if_pos hy];exact fun _=>⟨v,if_pos hy,hv⟩
 ·rw[if_neg hy]
  have:=h2 y
  cases hq:lv.lookup y with
  | none=>rw[hq] at this;exact(if_neg hy).trans this
  | some b=>rw[hq] at this;exact fun hu=>let ⟨u,k1,k2⟩:=this hu;⟨u,(if_neg hy).trans k1,k2⟩
end
end
section
section
variable {G:Gd} {F:Fx} {lv lv' lv'' lv₁ lv₂:LV} {σ σ' σ'' σ₁ σ₂ σ₃ σ₄:LA} {π π':PM} {s s':Shared}
theorem zE:Ev G F lv σ (.Constant (.int i) k pos) (.int i) σ:=fun π s S Q E h=>by
 refine bn (wpAny_Constant_int ?_)
 (refine bD (S.c.toks (X:=cG) (s.toks+1)) fun C W=>?_)
 exact h π _ _ C W ⟨_,rfl⟩
theorem vR:Ev G F lv σ (.Constant (.str x) k pos) (.str x) σ:=fun π s S Q E h=>by
 refine bn (wpAny_Constant_str ?_)
 (refine bD (S.c.toks (X:=cG) (s.toks+1)) fun C W=>?_)
 exact h π _ _ C W ⟨_,rfl⟩
theorem StC.same (S:StC g A σ π s):Fwd A cG σ π s σ π s:=(S.keeps (fun _ _ e=>e) rfl rfl).2
theorem xV:Ev G F lv σ (.Constant (.bool b) k pos) (.bool b) σ:=fun π s S Q E h=>bn (wpAny_Constant_bool (h π s _ S.c S.c.same rfl))
theorem xR:Ev G F lv σ (.Constant .none k pos) .none σ:=fun π s S Q E h=>bn (wpAny_Constant_none (h π s _ S.c S.c.same rfl))
theorem vT (hk:F.env.scope.kind = .function) (hl:F.env.kindOf x=some .local) (hv:lv.lookup x=some a) (hu:a ≠ .unk) (hd:(x==("__debug__" : Str))=false:=by decide) :
  Ev G F lv σ (.Name x pos) a σ:=fun π s S Q E h=>by
 (refine aF (S.loc) fun m h1 h2=>?_)
 have h3:=h2 x
 rw[hv] at h3
 (refine aF (h3 hu) fun v h4 h5=>?_)
 exact bn (wpAny_Name (wpAny_loadName_local hk hl h1 h4 (h π s v S.c S.c.same h5)) hd)
def iX (G:Gd) (gl:Addr) (x:Str) (a:AV):Prop:=∃mg v,G.g.Ns gl mg∧mg x=some v∧∀π n,VR π n a v
def pO (G:Gd) (gl bl:Addr) (x:Str) (a:AV):Prop:=∃mg mb v,G.g.Ns gl mg∧mg x=none∧G.g.Ns bl mb∧mb x=some v∧∀π n,VR π n a v
theorem xT (hk:F.env.scope.kind = .function) (hl:F.env.kindOf x=some .globalImplicit) (hg:iX G F.env.globals x a) (hd:(x==("__debug__" : Str))=false:=by decide) :
  Ev G F lv σ (.Name x pos) a σ:=fun π s S Q E h=>by
 (refine cy hg fun mg v h1 h2 h3=>?_;clear hg)
 exact bn (Name_function_global hk hl (loadGlobal_global (h1.keeps S.c.keepg) h2 (h π s v S.c S.c.same (h3 _ _))) hd)
theorem zK (hk:F.env.scope.kind = .function) (hl:F.env.kindOf x=some .globalImplicit) (hg:pO G F.env.globals F.env.builtins x a) (hd:(x==("__debug__" : Str))=false:=by decide) :
  Ev G F lv σ (.Name x pos) a σ:=fun π s S Q E h=>by
 (refine jK hg fun mg mb v h1 h2 h3 h4 h5=>?_;clear hg)
 exact bn (Name_function_global hk hl (loadGlobal_builtin (h1.keeps S.c.keepg) h2 (h3.keeps S.c.keepg) h4 (h π s v S.c S.c.same (h5 _ _))) hd)
theorem j3 {cl:List (Str×Nat)} (π:PM) (h:cl.lookup x=some i):(cl.map fun p=>(p.1,π.a p.2)).lookup x=some (π.a i):=by
 induction cl with
 | nil=>simp at h
 | cons p r ih =>
  obtain⟨y,j⟩:=p
  simp only[List.map_cons,List.lookup_cons] at h ⊢
  cases hq:x==y with
  | true=>rw[hq] at h;simp at h;subst h;rfl
  | false=>rw[hq] at h;exact ih h
theorem vX (hk:F.env.scope.kind = .function) (hl:F.env.kindOf x=some .cell∨F.env.kindOf x=some .free) (hc:F.cl.lookup x=some i) (hv:σ[i]? = some (.cell (some a)))
  (hn:(x==("__classdict__" : Str))=false:=by decide) (hd:(x==("__debug__" : Str))=false:=by decide):Ev G F lv σ (.Name x pos) a σ:=fun π s S Q E h=>by
 have hc':F.env.cells.lookup x=some (π.a i):=by rw[S.cells.1];exact j3 π hc
 (refine aF (S.c.rep.at_ i _ hv) fun u h1 h2=>?_)
 cases u with
 | none=>exact h2.elim
 | some v =>
  rcases hl with hl | hl
  ·exact bn (wpAny_Name (wpAny_loadName_cell hk hl hc' h1 (h π s v S.c S.c.same h2)) hd)
  ·exact bn (wpAny_Name (wpAny_loadName_free hk hl hc' h1 (h π s v S.c S.c.same h2) hn) hd)
theorem zL (x:Ev G F lv σ l a σ₁) (y:Ev G F lv σ₁ r b σ₂) (z:fy G F.A σ₂ (binaryOp op) a b v σ₃):Ev G F lv σ (.BinOp l op r pos) v σ₃:=fun π s S Q E h =>
 rO (x π s S _ E fun π₁ s₁ v₁ C₁ W₁ R₁=>y π₁ s₁ (S.fwd C₁ W₁) _ E fun π₂ s₂ v₂ C₂ W₂ R₂ =>
  z π₂ s₂ _ _ C₂ (R₁.mono W₂.ext W₂.len) R₂ _ E fun π₃ s₃ v₃ C₃ W₃ R₃=>h π₃ s₃ v₃ C₃ ((W₁.transN W₂).transN W₃) R₃)
theorem zI (x:Ev G F lv σ l a σ₁) (y:Ev G F lv σ₁ r b σ₂) (z:fy G F.A σ₂ (compareOp op) a b v σ₃) (hm:behindInMarks op r=false:=by with_unfolding_all rfl) :
  Ev G F lv σ (.Compare l [op] [r] pos) v σ₃:=fun π s S Q E h =>
 m8 (x π s S _ E fun π₁ s₁ v₁ C₁ W₁ R₁=>y π₁ s₁ (S.fwd C₁ W₁) _ E fun π₂ s₂ v₂ C₂ W₂ R₂ =>
  z π₂ s₂ _ _ C₂ (R₁.mono W₂.ext W₂.len) R₂ _ E fun π₃ s₃ v₃ C₃ W₃ R₃=>h π₃ s₃ v₃ C₃ ((W₁.transN W₂).transN W₃) R₃) hm
theorem Bw (h₁:Ev G F lv σ x a σ₁) (z:wJ G F.A σ₁ (unaryOp op) a v σ₂):Ev G F lv σ (.UnaryOp op x pos) v σ₂:=fun π s S Q E h =>
 oA (h₁ π s S _ E fun π₁ s₁ v₁ C₁ W₁ R₁=>z π₁ s₁ _ C₁ R₁ _ E fun π₂ s₂ v₂ C₂ W₂ R₂=>h π₂ s₂ v₂ C₂ (W₁.transN W₂) R₂)
theorem vk:xy G A σ (.bool b) b σ:=fun π s v S hv Q E h=>by
 subst hv;exact bn (wpAny_truthy_bool (h π s S S.same))
theorem zo (x:Ev G F lv σ l a σ₁) (y:Ev G F lv σ₁ r b σ₂) (z:fy G F.A σ₂ (compareOp op) a b v σ₃) (u:xy G F.A σ₃ v t σ₄) (hm:behindInMarks op r=false:=by with_unfolding_all rfl) :
  Ts G F lv σ (.Compare l [op] [r] pos) t σ₄:=fun π s S Q E h =>
 iD (x π s S _ E fun π₁ s₁ v₁ C₁ W₁ R₁=>y π₁ s₁ (S.fwd C₁ W₁) _ E fun π₂ s₂ v₂ C₂ W₂ R₂ =>
  z π₂ s₂ _ _ C₂ (R₁.mono W₂.ext W₂.len) R₂ _ E fun π₃ s₃ v₃ C₃ W₃ R₃=>u π₃ s₃ _ C₃ R₃ _ E fun π₄ s₄ C₄ W₄=>h π₄ s₄ C₄ (((W₁.transN W₂).transN W₃).transN W₄)) hm
theorem zn (h₁:Ts G F lv σ x t σ₁):Ts G F lv σ (.UnaryOp .Not x pos) (!t) σ₁:=fun π s S Q E h=>kA (h₁ π s S _ E h)
theorem zm (x:Ev G F lv σ e v σ₁) (u:xy G F.A σ₁ v t σ₂) (he:∀env whole,isTrue e env whole=(do let v←whole;standAt e.pos;holding [v] (truthy v)):=by intro _ _;rfl):Ts G F lv σ e t σ₂:=fun π s S Q E h =>
 jB (x π s S _ E fun π₁ s₁ v₁ C₁ W₁ R₁=>u π₁ s₁ _ C₁ R₁ _ E fun π₂ s₂ C₂ W₂=>h π₂ s₂ C₂ (W₁.transN W₂)) (he _ _)
def xA (G:Gd) (F:Fx) (lv:LV) (σ:LA) (op:BoolOp) (es:List Expr) (b:Bool) (σ':LA):Prop :=
 ∀π s,St G F lv σ π s→∀ (Q:Bool→Shared→Prop) E,(∀π' s',StC G.g F.A σ' π' s'→Fwd F.A cG σ π s σ' π' s'→Q b s')→aS G.M F.A (allTrue op es F.env) Q E s
theorem qt:xA G F lv σ .Or [] false σ:=fun π s S Q E h=>iR (h π s S.c S.c.same)
theorem qv (x:Ts G F lv σ e true σ₁) (y:xA G F lv σ₁ .And es t σ₂):xA G F lv σ .And (e::es) t σ₂:=fun π s S Q E h =>
 eE (x π s S _ E fun π₁ s₁ C₁ W₁=>by
  rw[if_pos rfl];exact y π₁ s₁ (S.fwd C₁ W₁) _ E fun π₂ s₂ C₂ W₂=>h π₂ s₂ C₂ (W₁.transN W₂))
theorem qu (x:Ts G F lv σ e false σ₁):xA G F lv σ .And (e::es) false σ₁:=fun π s S Q E h =>
 eE (x π s S _ E fun π₁ s₁ C₁ W₁=>by rw[if_neg Bool.false_ne_true];exact h π₁ s₁ C₁ W₁)
theorem qs (x:Ts G F lv σ e true σ₁):xA G F lv σ .Or (e::es) true σ₁:=fun π s S Q E h =>
 eO (x π s S _ E fun π₁ s₁ C₁ W₁=>by rw[if_pos rfl];exact h π₁ s₁ C₁ W₁)
theorem sN (x:Ts G F lv σ e false σ₁) (y:xA G F lv σ₁ .Or es t σ₂):xA G F lv σ .Or (e::es) t σ₂:=fun π s S Q E h =>
 eO (x π s S _ E fun π₁ s₁ C₁ W₁=>by
  rw[if_neg Bool.false_ne_true];exact y π₁ s₁ (S.fwd C₁ W₁) _ E fun π₂ s₂ C₂ W₂=>h π₂ s₂ C₂ (W₁.transN W₂))
theorem xz (x:xA G F lv σ op es t σ₁):Ts G F lv σ (.BoolOp op es pos) t σ₁:=fun π s S Q E h=>i7 (x π s S Q E h)
theorem zF (x:Ts G F lv σ c true σ₁) (y:Ev G F lv σ₁ a v σ₂):Ev G F lv σ (.IfExp c a b pos) v σ₂:=fun π s S Q E h =>
 mf (x π s S _ E fun π₁ s₁ C₁ W₁=>by rw[if_pos rfl];exact y π₁ s₁ (S.fwd C₁ W₁) _ E fun π₂ s₂ v₂ C₂ W₂ R₂=>h π₂ s₂ v₂ C₂ (W₁.transN W₂) R₂)
theorem zG (x:Ts G F lv σ c false σ₁) (y:Ev G F lv σ₁ b v σ₂):Ev G F lv σ (.IfExp c a b pos) v σ₂:=fun π s S Q E h =>
 mf (x π s S _ E fun π₁ s₁ C₁ W₁=>by rw[if_neg Bool.false_ne_true];exact y π₁ s₁ (S.fwd C₁ W₁) _ E fun π₂ s₂ v₂ C₂ W₂ R₂=>h π₂ s₂ v₂ C₂ (W₁.transN W₂) R₂)
def wK (G:Gd) (F:Fx) (lv:LV) (σ:LA) (op:BoolOp) (es:List Expr) (r:AV) (σ':LA):Prop :=
 ∀p π s,St G F lv σ π s→∀Q E,tJ G F.A σ π s r σ' Q→aS G.M F.A (boolOp p op (evalEach es F.env)) Q E s
theorem yc (x:Ev G F lv σ e v σ₁):wK G F lv σ op [e] v σ₁:=fun p π s S Q E h=>x π s S Q E h
theorem pG (x:Ev G F lv σ e v σ₁) (u:xy G F.A σ₁ v t σ₂)
  (y:(match op,t with | .And,false | .Or,true=>r=v∧σ₃=σ₂ | _,_=>wK G F lv σ₂ op (e'::es) r σ₃)):wK G F lv σ op (e::e'::es) r σ₃:=fun p π s S Q E h=>by
 show aS G.M F.A (do
  let v←eval e F.env
  standAt p
  let t←holding [v] (truthy v)
  match op,t with
  | .And,false | .Or,true=>pure v
  | _,_=>boolOp p op (evalEach (e'::es) F.env)) Q E s
 refine ae (x π s S _ E fun π₁ s₁ v₁ C₁ W₁ R₁=>ae (bz (ae (aq (u π₁ s₁ _ C₁ R₁ _ E fun π₂ s₂ C₂ W₂=>?_)))))
 have W:=W₁.transN W₂
 have go:wK G F lv σ₂ op (e'::es) r σ₃→aS G.M F.A (boolOp p op (evalEach (e'::es) F.env)) Q E s₂:=fun z=>z p π₂ s₂ (S.fwd C₂ W) Q E fun π₃ s₃ v₃ C₃ W₃ R₃=>h π₃ s₃ v₃ C₃ (W.transN W₃) R₃
 have stop:r=v∧σ₃=σ₂→aS G.M F.A (pure v₁) Q E s₂:=fun⟨e1,e2⟩=>by subst e1 e2;exact ak (h π₂ s₂ v₁ C₂ W (R₁.mono W₂.ext W₂.len))
 cases op<;>cases t<;>first | exact go y | exact stop y
theorem tn (x:wK G F lv σ op es r σ₁):Ev G F lv σ (.BoolOp op es pos) r σ₁:=fun π s S Q E h=>x pos π s S Q E h
theorem rC:tR G F lv σ [] [] σ:=fun p π s S Q E h=>lQ (h π s [] S.c S.c.same .nil)
theorem lE (x:Ev G F lv σ e v σ₁) (y:tR G F lv σ₁ es vs σ₂) (he:∀env,starEach (e::es) env=(false,eval e env)::starEach es env:=by intro _;rfl) :
  tR G F lv σ (e::es) (v::vs) σ₂:=fun p π s S Q E h =>
 kz (x π s S _ E fun π₁ s₁ v₁ C₁ W₁ R₁=>y p π₁ s₁ (S.fwd C₁ W₁) _ E fun π₂ s₂ vs₂ C₂ W₂ R₂=>h π₂ s₂ _ C₂ (W₁.transN W₂) (.cons (R₁.mono W₂.ext W₂.len) R₂)) (he _)
theorem bw {h:Heap}:∀b ob,h.get? b=some ob→(h.push o).get? b=some ob:=fun _ _ e=>Heap.get?_push_of_some _ e
theorem aC (h:Heap):h.get? h.objs.size=none:=by
 cases q:h.get? h.objs.size with
 | none=>rfl
 | some o=>exact absurd (Heap.lt_size q) (Nat.lt_irrefl _)
theorem xS (x:tR G F lv σ es vs σ₁) (hn:vs.length≤sizeLine:=by decide):Ev G F lv σ (.List es pos) (.dyn σ₁.length) (σ₁++[.list vs]):=fun π s S Q E h=>by
 refine tT (x pos π s S _ E fun π₁ s₁ us C₁ W₁ R₁=>⟨?_,?_⟩)
 ·rw[← R₁.length];exact hn
 ·obtain⟨π₂,C₂,W₂,e1,_⟩:=C₁.alloc (X:=cG) (s':={ s₁ with heap:=s₁.heap.push { cls := .type "list",data := .seq us.toArray } }) (ao := .list vs) s₁.heap.objs.size s₁.heap.objs.size bw (aC _) (aC _)
   (fun π' e1 e2 _=>⟨us,⟨_,(by rw[e2];exact Heap.get?_push_size _ rfl)⟩,R₁.mono e1 (Nat.le_succ _)⟩) rfl rfl
  exact h π₂ _ _ C₂ (W₁.transN W₂) ⟨by simp,by rw[e1]⟩
theorem vQ (x:tR G F lv σ es vs σ₁) (hn:vs.length≤sizeLine:=by decide):Ev G F lv σ (.Tuple es k pos) (.dyn σ₁.length) (σ₁++[.tuple vs]):=fun π s S Q E h=>by
 refine rN (x pos π s S _ E fun π₁ s₁ us C₁ W₁ R₁=>⟨?_,?_⟩)
 ·rw[← R₁.length];exact hn
 ·obtain⟨π₂,C₂,W₂,e1,_⟩:=C₁.alloc (X:=cG) (s':={ s₁ with heap:=s₁.heap.push { cls := .type "tuple",data := .seq us.toArray } }) (ao := .tuple vs) s₁.heap.objs.size s₁.heap.objs.size bw (aC _) (aC _)
   (fun π' e1 e2 _=>⟨us,⟨_,(by rw[e2];exact Heap.get?_push_size _ rfl),rfl,_,rfl⟩,R₁.mono e1 (Nat.le_succ _)⟩) rfl rfl
  exact h π₂ _ _ C₂ (W₁.transN W₂) ⟨by simp,by rw[e1]⟩
def Sub (G:Gd) (A:Around) (σ:LA) (slice:Expr) (a b r:AV) (σ':LA):Prop:=∀value,fy G A σ (subscriptTail value slice) a b r σ'
theorem zB (x:Ev G F lv σ e a σ₁) (y:Ev G F lv σ₁ i b σ₂) (z:Sub G F.A σ₂ i a b r σ₃):Ev G F lv σ (.Subscript e i pos) r σ₃:=fun π s S Q E h =>
 iF (x π s S _ E fun π₁ s₁ v₁ C₁ W₁ R₁=>y π₁ s₁ (S.fwd C₁ W₁) _ E fun π₂ s₂ v₂ C₂ W₂ R₂ =>
  z e π₂ s₂ _ _ C₂ (R₁.mono W₂.ext W₂.len) R₂ _ E fun π₃ s₃ v₃ C₃ W₃ R₃=>h π₃ s₃ v₃ C₃ ((W₁.transN W₂).transN W₃) R₃)
theorem xW (y:Ev G F lv σ e a σ₁) (z:wJ G F.A σ₁ (fun o=>getAttr o x true) a r σ₂)
  (he:∀env,eval (.Attribute e x pos) env=(do
   let o←eval e env
   standAt pos.atName
   let r←holding [o] (getAttr o x true)
   letTemporaryGo e o r
   pure r):=by intro _;with_unfolding_all rfl):Ev G F lv σ (.Attribute e x pos) r σ₂:=fun π s S Q E h =>
 lS (y π s S _ E fun π₁ s₁ v₁ C₁ W₁ R₁=>z π₁ s₁ _ C₁ R₁ _ E fun π₂ s₂ v₂ C₂ W₂ R₂=>h π₂ s₂ v₂ C₂ (W₁.transN W₂) R₂) (he _)
theorem vH:Ex G F lv σ [] .next lv σ:=fun π s S Q E h=>fJ (h π s _ S S.c.same.toX rfl)
theorem rx {st:Stmt} (x:ou G F lv σ st .next lv₁ σ₁) (y:Ex G F lv₁ σ₁ rest f lv₂ σ₂):Ex G F lv σ (st::rest) f lv₂ σ₂:=fun π s S Q E h =>
 dj (x π s S _ E fun π₁ s₁ fl S₁ W₁ R₁=>by
  have:fl = .next:=R₁
  subst this
  exact y π₁ s₁ S₁ Q E fun π₂ s₂ fl₂ S₂ W₂ R₂=>h π₂ s₂ fl₂ S₂ (S₂.transL W₁ W₂) R₂)
theorem iy {st:Stmt} (hf:f ≠ .next) (x:ou G F lv σ st f lv₁ σ₁):Ex G F lv σ (st::rest) f lv₁ σ₁:=fun π s S Q E h =>
 dj (x π s S _ E fun π₁ s₁ fl S₁ W₁ R₁=>by
  have hQ:=h π₁ s₁ fl S₁ W₁ R₁
  cases fl with
  | next=>exact absurd (by cases f<;>first | rfl | (cases R₁;done) | ((refine aF R₁ fun _ e _=>?_;clear R₁);cases e)) hf
  | brk=>exact hQ
  | cont=>exact hQ
  | ret v=>exact hQ)
theorem rL (hk:F.env.scope.kind = .function) (hl:F.env.kindOf x=some .local):As G F lv σ (.Name x pos) a (put x a lv) σ:=fun π s v S hv Q E h=>by
 show aS G.M F.A (do standAt pos;bindName F.env x v) Q E s
 exact ae (bz (eR (bn (dZ S hv hk hl fun s' S' W=>h π s' S' W))))
theorem iY (x:Ev G F lv σ e a σ₁) (y:As G F lv σ₁ t a lv₂ σ₂) (hs:∀env,swapsWithSole [t] e pos.line env=pure false:=by intro _;rfl) (hw:∀env,swappedStores [t] e env=pure none:=by intro _;rfl) (he:∀env,(assignEach [t] env).map (·.2)=[assign t env]:=by intro _;rfl) :
  ou G F lv σ (.Assign [t] e pos) .next lv₂ σ₂:=fun π s S Q E h =>
 iS (x π s S _ E fun π₁ s₁ v₁ C₁ W₁ R₁=>by
  rw[he]
  exact y π₁ s₁ v₁ (S.fwd C₁ W₁) R₁ _ E fun π₂ s₂ S₂ W₂=>h π₂ s₂ _ S₂ (S₂.transL W₁.toX W₂) rfl) (hs _) (hw _)
theorem oq (y:Ev G F lv σ o b σ₁) (z:tC G F.A σ₁ (fun o _ v=>setAttr o x v) b .none a σ₂):As G F lv σ (.Attribute o x pos) a lv σ₂:=fun π s v S hv Q E h=>by
 show aS G.M F.A (do let ov←holding [v] (eval o F.env);standAt pos.atName;holding [v,ov] (setAttr ov x v);release [v,ov] []) Q E s
 exact ae (aq (y π s S _ E fun π₁ s₁ v₁ C₁ W₁ R₁=>ae (bz (ae (aq (z π₁ s₁ _ .none _ C₁ R₁ rfl (hv.mono W₁.ext W₁.len) _ E fun π₂ s₂ C₂ W₂=>by
  have W:=W₁.transN W₂
  exact jX (h π₂ s₂ (S.fwd C₂ W) W.toX)))))))
theorem z6 (y:Ev G F lv σ o b σ₁) (y':Ev G F lv σ₁ i c σ₂) (z:tC G F.A σ₂ setItem b c a σ₃):As G F lv σ (.Subscript o i pos) a lv σ₃:=fun π s v S hv Q E h=>by
 rw[assign_Subscript]
 exact ae (aq (y π s S _ E fun π₁ s₁ v₁ C₁ W₁ R₁=>ae (aq (y' π₁ s₁ (S.fwd C₁ W₁) _ E fun π₂ s₂ v₂ C₂ W₂ R₂=>ae (bz (ae (aq
  (z π₂ s₂ _ _ _ C₂ (R₁.mono W₂.ext W₂.len) R₂ ((hv.mono W₁.ext W₁.len).mono W₂.ext W₂.len) _ E fun π₃ s₃ C₃ W₃=>by
   have W:=(W₁.transN W₂).transN W₃
   exact jX (h π₃ s₃ (S.fwd C₃ W) W.toX)))))))))
theorem xN (x:Ts G F lv σ t true σ₁) (y:Ex G F lv σ₁ b f lv₂ σ₂):ou G F lv σ (.If t b o pos) f lv₂ σ₂:=fun π s S Q E h =>
 m7 (x π s S _ E fun π₁ s₁ C₁ W₁=>by rw[if_pos rfl];exact y π₁ s₁ (S.fwd C₁ W₁) Q E fun π₂ s₂ fl S₂ W₂ R₂=>h π₂ s₂ fl S₂ (S₂.transL W₁.toX W₂) R₂)
theorem xO (x:Ts G F lv σ t false σ₁) (y:Ex G F lv σ₁ o f lv₂ σ₂):ou G F lv σ (.If t b o pos) f lv₂ σ₂:=fun π s S Q E h =>
 m7 (x π s S _ E fun π₁ s₁ C₁ W₁=>by rw[if_neg Bool.false_ne_true];exact y π₁ s₁ (S.fwd C₁ W₁) Q E fun π₂ s₂ fl S₂ W₂ R₂=>h π₂ s₂ fl S₂ (S₂.transL W₁.toX W₂) R₂)
theorem xM (x:Ev G F lv σ e a σ₁):ou G F lv σ (.Return (some e) pos) (.ret a) lv σ₁:=fun π s S Q E h =>
 gH (x π s S _ E fun π₁ s₁ v C₁ W₁ R₁=>h π₁ s₁ _ (S.fwd C₁ W₁) W₁.toX ⟨v,rfl,R₁⟩)
theorem vL:ou G F lv σ (.Return none pos) (.ret .none) lv σ:=fun π s S Q E h=>bn (wpAny_Return_none (h π s _ S S.c.same.toX ⟨.none,rfl,rfl⟩))
theorem s9:ou G F lv σ (.Break pos) .brk lv σ:=fun π s S Q E h=>bn (wpAny_Break (h π s _ S S.c.same.toX rfl))
theorem vM (hk:F.env.scope.kind = .function) (x:Ev G F lv σ e a σ₁) (hs:∀env,swapsWith e none pos.line env=pure false:=by intro _;rfl):ou G F lv σ (.Expr e pos) .next lv σ₁:=fun π s S Q E h =>
 oB (x π s S _ E fun π₁ s₁ v C₁ W₁ R₁=>h π₁ s₁ _ (S.fwd C₁ W₁) W₁.toX rfl) (by unfold interactive;rw[hk];rfl) (hs _)
theorem aR {P Q:Prop} (h:b=true) (x:P):cond b P Q:=by subst h;exact x
theorem au {P Q:Prop} (h:b=false) (x:Q):cond b P Q:=by subst h;exact x
theorem rD (x:Ev G F lv σ e v σ₁) (u:xy G F.A σ₁ v t σ₂) (y:cond t (wK G F lv σ₂ .And (e'::es) r σ₃) (r=v∧σ₃=σ₂)):wK G F lv σ .And (e::e'::es) r σ₃:=by
 cases t<;>exact pG x u y
theorem we (x:Ev G F lv σ e v σ₁) (u:xy G F.A σ₁ v t σ₂) (y:cond t (r=v∧σ₃=σ₂) (wK G F lv σ₂ .Or (e'::es) r σ₃)):wK G F lv σ .Or (e::e'::es) r σ₃:=by
 cases t<;>exact pG x u y
def Bq (f₁:AFl) (P Q:Prop):Prop:=match f₁ with
 | .next=>P
 | _=>Q
theorem jO (h:P):Bq .next P Q:=h
theorem qG {st:Stmt} (x:ou G F lv σ st f₁ lv₁ σ₁) (y:Bq f₁ (Ex G F lv₁ σ₁ rest f lv₂ σ₂) (f=f₁∧lv₂=lv₁∧σ₂=σ₁)):Ex G F lv σ (st::rest) f lv₂ σ₂:=by
 cases f₁ with
 | next=>exact rx x y
 | brk=>(refine dA y fun zz18 zz19 zz20=>?_;clear y;subst zz18;subst zz19;subst zz20);exact iy (by intro h;cases h) x
 | cont=>(refine dA y fun zz22 zz23 zz24=>?_;clear y;subst zz22;subst zz23;subst zz24);exact iy (by intro h;cases h) x
 | ret a=>(refine dA y fun zz26 zz27 zz28=>?_;clear y;subst zz26;subst zz27;subst zz28);exact iy (by intro h;cases h) x
end
end
section
section
variable {G:Gd} {F:Fx} {A:Around} {lv lv' lv'' lv₁ lv₂:List (Str×AV)} {σ σ' σ'' σ₁ σ₂ σ₃ σ₄:List AO} {π π':PM} {s s':Shared}
structure Rm (A:Around) (n:Nat):Prop where
 depth:A.depth+4*n≤900
 units:A.units+40*n≤9000
 handled:A.handled=none
theorem Rm.deeper (x:Rm A (n+1)):Rm (A.deeper env) n :=
 ⟨by have:=x.depth;show A.depth+1+4*n≤900;exact lU this,by have:=x.units;show A.units+3+40*n≤9000;exact lU this,x.handled⟩
theorem Rm.less (x:Rm A n) (h:m≤n):Rm A m:=⟨by have:=x.depth;exact mI this (Nat.mul_le_mul_left 4 h),by have:=x.units;exact mI this (Nat.mul_le_mul_left 40 h),x.handled⟩
theorem Rm.room (x:Rm A n):A.depth < recursionLimit:=by have:=x.depth;show A.depth < 1000;lia
def ly (s:Shared) (f:Value):Prop:=∃k,∀ (M:Model) (A:Around) (Q:Keeper→Shared→Prop) E,Q k s→wpAny M A (keeperOf f) Q E s
theorem ee (hplain:args.any (·.1)=false)
  (h:aS M A (spliced args) (fun vs s₁=>ly s₁ f∧aS M A (call f (first++vs) []) Q E s₁) E s):aS M A (callWith pos f first args []) Q E s:=by
 let Q':Args→Shared→Prop:=fun x s₁=>ly s₁ f∧aS M A (call f (first++x.pos) x.kw) Q E s₁
 have hev:aS M A (evalArgs f true args []) Q' E s:=by
  cases args with
  | nil =>
   unfold evalArgs
   show aS M A (spliced [] >>= _) _ E s
   refine ae (bb h (fun vs s' h'=>?_) fun _ _ x=>x)
   refine ae (ak (aq ?_))
   exact ae (ak (ae (ak (ak h'))))
  | cons a rest =>
   obtain⟨b,x⟩:=a
   have hb:b=false:=by simp only[List.any_cons,Bool.or_eq_false_iff] at hplain;exact hplain.1
   subst hb
   unfold evalArgs
   show aS M A (spliced ((false,x)::rest) >>= _) Q' E s
   exact aZ h fun vs s' h'=>aq (ae (ak (ae (ak (ak h')))))
 unfold callWith
 refine ae (aq (bb hev (fun x s₁ h₁=>ae (bz ?_)) fun _ _ x=>x))
 (refine bD h₁ fun zz1 h₂=>?_;clear h₁;refine b8 zz1 fun k hk=>?_;clear zz1)
 have tail:∀ {t:Sem Value},aS M A t Q E s₁→aS M A (t >>= fun r=>holding [r] point >>= fun _=>pure r) Q E s₁ :=
  fun ht=>ae (bb ht (fun r s₂ hr=>ae (aq (jA (ak hr)))) fun _ _ x=>x)
 simp only[hplain,List.any_nil,Bool.or_false]
 refine ae (bn (hk M A _ E ?_))
 have op:∀l,aS M A (operate l (call f (first++x.pos) x.kw)) Q E s₁:=fun l=>eB h₂
 cases k
 ·dsimp only
  split
  ·exact tail h₂
  ·exact tail (by unfold callMarked;exact oz h₂)
 ·dsimp only
  split
  ·exact tail h₂
  ·exact tail (by unfold callMarked;exact oz h₂)
 ·exact tail h₂
 ·exact tail (op _)
def nZ (G:Gd) (A:Around) (σ:List AO) (f:AV):Prop:=∀π s v,StC G.g A σ π s→VR π σ.length f v→ly s v
theorem dr:nZ G A σ (.builtin n):=fun π s v S hv=>by
 subst hv;exact⟨.machine,fun M A Q E h=>wpAny_pure h⟩
theorem ju:nZ G A σ (.type n):=fun π s v S hv=>by
 subst hv;exact⟨.machine,fun M A Q E h=>wpAny_pure h⟩
theorem xD (ho:G.g.get? a=some o) (hd:o.data = .func fd):nZ G A σ (.base a):=fun π s v S hv=>by
 subst hv
 refine⟨.frame,fun M A Q E h=>?_⟩
 unfold keeperOf
 refine wpAny_bind (wpAny_load (S.keepg _ _ ho) ?_)
 rw[hd];exact wpAny_pure h
theorem rA (x:Ev G F lv σ f fv σ₁) (y:tR G F lv σ₁ args as σ₂) (k:nZ G F.A σ₂ fv) (z:Cl G F.A σ₂ fv as r σ₃)
  (he:∀env,eval (.Call f args [] pos) env=(do callWith pos (← eval f env) [] (backTo pos (starEach args env)) (backToKw pos (keywordEach [] env))):=by intro _;rfl)
  (hp:∀env,(backTo pos (starEach args env)).any (·.1)=false:=by intro _;rfl):Ev G F lv σ (.Call f args [] pos) r σ₃:=fun π s S Q E h=>by
 rw[he]
 refine ae (x π s S _ E fun π₁ s₁ v₁ C₁ W₁ R₁=>?_)
 refine ee (hp _) (y pos π₁ s₁ (S.fwd C₁ W₁) _ E fun π₂ s₂ vs C₂ W₂ R₂=>⟨k π₂ s₂ _ C₂ (R₁.mono W₂.ext W₂.len),?_⟩)
 rw[List.nil_append]
 exact z π₂ s₂ _ vs C₂ (R₁.mono W₂.ext W₂.len) R₂ Q E fun π₃ s₃ v₃ C₃ W₃ R₃=>h π₃ s₃ v₃ C₃ ((W₁.transN W₂).transN W₃) R₃
def Gm (G:Gd) (A:Around) (σ:List AO) (o:AV) (name:Str) (f:AV) (first:List AV):Prop :=
 ∀π s v,StC G.g A σ π s→VR π σ.length o v→∀pl (Q:Value×List Value→Shared→Prop) E,
  (∀s' fv fs,StC G.g A σ π s'→Fwd A cG σ π s σ π s'→VR π σ.length f fv→VRs π σ.length first fs→Q (fv,fs) s')→aS G.M A (getMethod v name pl) Q E s
theorem n9 (x:Ev G F lv σ o ov σ₁) (m:Gm G F.A σ₁ ov name fv first) (y:tR G F lv σ₁ args as σ₂) (k:nZ G F.A σ₂ fv) (z:Cl G F.A σ₂ fv (first++as) r σ₃)
  (hb:∀env,attributeBase o name env (eval o env)=eval o env:=by intro _;rfl)
  (hfew:∀env,methodCallForm (args.length+([]:List Keyword).length) (backTo pos (starEach args env)) (backToKw pos (keywordEach [] env))=true:=by intro _;rfl)
  (hline:(apos.endLine==pos.line)=true:=by rfl)
  (hp:∀env,(backTo pos (starEach args env)).any (·.1)=false:=by intro _;rfl):Ev G F lv σ (.Call (.Attribute o name apos) args [] pos) r σ₃:=fun π s S Q E h=>by
 rw[arm_eval_Call,hb]
 refine ae (x π s S _ E fun π₁ s₁ v₁ C₁ W₁ R₁=>ae (bz ?_))
 unfold methodCall
 rw[hfew]
 refine ae (aq ?_)
 show aS G.M F.A (getMethod v₁ name _) _ E s₁
 refine m π₁ s₁ v₁ C₁ R₁ _ _ E fun s₂ f₂ fs₂ C₂ W₂ Rf Rs=>?_
 have hpos:methodCallPos true o F.env apos pos=pure pos:=by
  unfold methodCallPos
  rw[if_pos (by rw[hline];rfl)]
 rw[hpos]
 refine ae (ak ?_)
 have W:=W₁.transN W₂
 refine ee (hp _) (y pos π₁ s₂ (S.fwd C₂ W) _ E fun π₃ s₃ vs C₃ W₃ R₃=>⟨k π₃ s₃ _ C₃ (Rf.mono W₃.ext W₃.len),?_⟩)
 exact z π₃ s₃ _ _ C₃ (Rf.mono W₃.ext W₃.len) ((Rs.mono W₃.ext W₃.len).append R₃) Q E fun π₄ s₄ v₄ C₄ W₄ R₄=>h π₄ s₄ v₄ C₄ ((W.transN W₃).transN W₄) R₄
structure DefAt (G:Gd) (a:Addr) (fd:FuncData):Prop where
 at_:∃o,G.g.get? a=some o∧o.data = .func fd
 lim:G.g.NoLimit
 code:G.g.CodeRec fd.code fd.qualname
theorem DefAt.k (D:DefAt G a fd):nZ G A σ (.base a):=let ⟨_,h1,h2⟩:=D.at_;xD h1 h2
noncomputable def dS:AFl→AV
 | .ret a=>a
 | _ => .none
theorem dm {β:Type}:∀ {ns:List Str} {vs:List β},ns.Nodup→ns.length=vs.length→(ns.zip vs).reverse.lookup x=(ns.zip vs).lookup x
 | [],_,_,_=>by simp
 | n::ns,[],_,h=>by simp at h
 | n::ns,v::vs,hd,h=>by
  (refine bD (List.nodup_cons.mp hd) fun h1 h2=>?_)
  rw[List.zip_cons_cons,List.reverse_cons,List.lookup_append,dm h2 (by simpa using h),List.lookup_cons,List.lookup_cons,List.lookup_nil]
  by_cases hx:x=n
  ·subst hx
   have:(ns.zip vs).lookup x=none:=by
    cases hq:(ns.zip vs).lookup x with
    | none=>rfl
    | some b =>
     exfalso
     have:∀ (l:List Str) (m:List β),(l.zip m).lookup x=some b→x∈l:=fun l=>by
      induction l with
      | nil=>intro m h;simp at h
      | cons y l ih =>
       intro m h
       cases m with
       | nil=>simp at h
       | cons z m =>
        rw[List.zip_cons_cons,List.lookup_cons] at h
        by_cases e:x=y
        ·subst e;exact List.mem_cons_self
        ·rw[show (x==y)=false from beq_eq_false_iff_ne.mpr e] at h
         exact List.mem_cons_of_mem _ (ih m h)
     exact h1 (this _ _ hq)
   rw[this];simp
  ·rw[show (x==n)=false from beq_eq_false_iff_ne.mpr hx];simp
theorem ku:∀ {ns:List Str} {as:List AV} {vs:List Value},VRs π n as vs→LvR π n (ns.zip as) (fun x=>(ns.zip vs).lookup x)
 | [],_,_,_=>fun x=>by simp
 | y::ns,[],_,h=>fun x=>by cases h;simp
 | y::ns,a::as,_,.cons (b:=v) (m:=vs) h1 h2=>fun x=>by
  simp only[List.zip_cons_cons,List.lookup_cons]
  cases hq:x==y with
  | true=>exact fun _=>⟨v,rfl,h1⟩
  | false=>exact ku h2 x
theorem ww {names:List Str} (D:DefAt G a fd) (hr:A.depth < recursionLimit) (hb:fd.body = .stmts body)
  (hbind:∀vs:List Value,vs.length=names.length→bindArgs fd ⟨vs,[]⟩=pure (names.zip vs)) (hn:as.length=names.length) (hnd:names.Nodup)
  (hcell:∀x∈fd.scope.names,x.2 ≠ .cell) (hloc:∀x∈names,fd.scope.names.lookup x=some .local) (hcl:fd.closure=[])
  (h:∀L,∃lv',Ex G ⟨A.deeper (callEnv fd L a),callEnv fd L a,[]⟩ (names.zip as) σ body f lv' σ')
  (hco:fd.scope.isCoroutine=false:=by rfl) (hgen:fd.scope.isGenerator=false:=by rfl) (hk:fd.scope.kind = .function:=by rfl):Cl G A σ (.base a) as (dS f) σ':=fun π s fv vs S hf hv Q E hq=>by
 subst hf
 (refine aF (D.at_) fun o ho hd=>?_)
 have hlen:vs.length=names.length:=hv.length.symm.trans hn
 refine dk (fe hr (S.keepg _ _ ho) hd (let ⟨mc,p,q⟩:=D.lim;⟨mc,p.keeps S.keepg,q⟩) (D.code.keeps S.keepg) hb (hbind vs hlen) hcell (fun x hx=>hloc _ ?_) (fun h₀ hns hk₀=>?_) hco hgen hk)
 ·obtain⟨y,v⟩:=x
  exact(List.of_mem_zip hx).1
 have hL:s.heap.get? s.heap.objs.size=none:=aC _
 (refine bD (S.keeps (X:=cG) (s':={ s with heap:=h₀,toks:=s.toks+(names.zip vs).length }) hk₀ rfl rfl) fun C W=>?_)
 (refine aF (C.frs) fun fs f1 f2=>?_)
 have hgL:G.g.get? s.heap.objs.size=none:=by
  cases q:G.g.get? s.heap.objs.size with
  | none=>rfl
  | some o=>have:=S.keepg _ _ q;rw[hL] at this;cases this
 have htL:¬Tr π σ s.heap.objs.size:=fun t=>by
  have hob:=S.rep.there t
  (refine b8 hob fun ob hob=>?_)
  rw[hL] at hob;cases hob
 have S0:St G ⟨A.deeper (callEnv fd s.heap.objs.size a),callEnv fd s.heap.objs.size a,[]⟩ (names.zip as) σ π { s with heap:=h₀,toks:=s.toks+(names.zip vs).length }:=by
  refine⟨⟨C.keepg,C.rep,(callEnv fd s.heap.objs.size a)::fs,by show (A.frames.map _)=_;rw[f1];rfl,fun g hg=>?_⟩,⟨_,hns,?_⟩,hgL,htL,?_,fun p hp=>by cases hp⟩
  ·rcases List.mem_cons.mp hg with rfl | hg
   ·(refine cQ hns fun o' es ep g1 g2 _=>?_;clear hns)
    exact⟨by show fd.scope.kind≠_;rw[hk];decide,_,o',rfl,g1,(fun vs q=>by rw[g2] at q;cases q),hgL,htL⟩
   ·exact f2 g hg
  ·have:=ku (ns:=names) hv
   have e:(fun x=>(names.zip vs).reverse.lookup x)=fun x=>(names.zip vs).lookup x:=funext fun x=>dm hnd hlen.symm
   rw[e];exact this
  ·show fd.closure=_;rw[hcl];rfl
 (refine b8 (h s.heap.objs.size) fun lv' h=>?_)
 refine h π _ S0 _ _ fun π' s' fl S' W' R'=>?_
 have back:StC G.g A σ' π' s'∧Fwd A cG σ π s σ' π' s':=by
  (refine aF (S'.c.frs) fun fs' f1' f2'=>?_)
  have e:fs'=(callEnv fd s.heap.objs.size a)::fs:=by
   have:(A.frames.map ((callEnv fd s.heap.objs.size a)::·))=some fs':=f1'
   rw[f1] at this;exact(Option.some.inj this).symm
  subst e
  refine⟨⟨S'.c.keepg,S'.c.rep,fs,f1,fun g hg=>f2' g (List.mem_cons_of_mem _ hg)⟩,⟨W'.ext,W'.len,fun b ob h1 _ h3=>?_,fun b hb=>?_,W'.stay,W'.os,W'.gens⟩⟩
  ·have hne:b≠s.heap.objs.size:=fun q=>by rw[q,hL] at h3;cases h3
   (refine bD (W'.kept b ob h1 hne (hk₀ b ob h3)) fun k1 k2=>?_)
   refine⟨fun hb=>k1 fun hb'=>?_,k2⟩
   have:b∈s.heap.objs.size::frs A:=by
    have e:frs (A.deeper (callEnv fd s.heap.objs.size a))=s.heap.objs.size::frs A:=by
     unfold frs
     show (match A.frames.map ((callEnv fd s.heap.objs.size a)::·) with | some fs=>_ | none=>_)=_
     rw[f1];rfl
    rw[← e];exact hb'
   rcases List.mem_cons.mp this with q | q
   ·exact hne q
   ·exact hb q
  ·rcases W'.fresh b hb with q | q
   ·exact .inl q
   ·right
    cases q':s.heap.get? b with
    | none=>rfl
    | some ob=>have:=hk₀ b ob q';rw[q] at this;cases this
 cases f with
 | ret a'=>(refine aF R' fun v zz11 hv'=>?_;clear R';subst zz11);exact hq π' s' v back.1 back.2 hv'
 | next=>have:fl = .next:=R';subst this;exact hq π' s' .none back.1 back.2 rfl
 | brk=>have:fl = .brk:=R';subst this;exact hq π' s' .none back.1 back.2 rfl
 | cont=>have:fl = .cont:=R';subst this;exact hq π' s' .none back.1 back.2 rfl
end
end
section
section
variable {G:Gd} {F:Fx} {A:Around} {lv lv' lv'' lv₁ lv₂:LV} {σ σ' σ'' σ₁ σ₂ σ₃ σ₄:LA} {π π':PM} {s s':Shared}
structure Beside (G:Gd) (A:Around) (σ:List AO) (π:PM) (s:Shared) (I:Addr):Prop where
 there:∃o,s.heap.get? I=some o
 off:¬Tr π σ I
 offg:G.g.get? I=none
 offf:I ∉ frs A
theorem Beside.fwd (B:Beside G A σ π s I) (W:Fwd A X σ π s σ' π' s') (hX:¬X I):Beside G A σ' π' s' I∧s'.heap.get? I=s.heap.get? I:=by
 (refine b8 (B.there) fun o ho=>?_)
 have h1:=(W.kept I o B.off hX ho).1 B.offf
 refine⟨⟨⟨o,h1⟩,fun t=>?_,B.offg,B.offf⟩,by rw[h1,ho]⟩
 rcases W.fresh I t with q | q
 ·exact B.off q
 ·rw[ho] at q;cases q
theorem Beside.new (S:StC G.g A σ π s) (h:s.heap.get? I=none) (S':StC G.g A σ π s') (h':∃o,s'.heap.get? I=some o):Beside G A σ π s' I:=by
 refine⟨h',fun t=>?_,?_,fun hf=>?_⟩
 ·(refine b8 (S.rep.there t) fun ob hob=>?_)
  rw[h] at hob;cases hob
 ·cases q:G.g.get? I with
  | none=>rfl
  | some o=>have:=S.keepg _ _ q;rw[h] at this;cases this
 ·(refine aF (S.frs) fun fs f1 f2=>?_)
  unfold Mine.frs at hf
  rw[f1] at hf
  (refine aF (List.mem_filterMap.mp hf) fun f hf1 hf2=>?_)
  (refine jo (f2 f hf1) fun _ L o a b _=>?_)
  rw[a] at hf2
  have:=Option.some.inj hf2
  subst this
  rw[h] at b;cases b
theorem StC.beside (S:StC G.g A σ π s) (B:Beside G A σ π s I) (hk:∀b o,b≠I→s.heap.get? b=some o→s'.heap.get? b=some o) (os:s'.os=s.os) (gens:s'.gens=s.gens) (hX:X I) :
  StC G.g A σ π s'∧Fwd A X σ π s σ π s':=by
 have ne:∀b,Tr π σ b→b≠I:=fun b t e=>B.off (e ▸ t)
 refine⟨⟨fun b o e=>hk b o (fun q=>by rw[q,B.offg] at e;cases e) (S.keepg b o e),⟨fun i o h=>(S.rep.at_ i o h).mono (.refl ..) (Nat.le_refl _) (List.getElem?_eq_some_iff.mp h).1 fun b hb ob e=>hk b ob (ne b ⟨i,o,h,hb⟩) e,S.rep.sep,S.rep.new⟩,?_⟩,
  ⟨.refl ..,Nat.le_refl _,fun b o h1 h2 h3=>?_,fun b h => .inl h,fun _ t=>t,os,gens⟩⟩
 ·(refine aF (S.frs) fun fs h1 h2=>?_)
  refine⟨fs,h1,fun f hf=>?_⟩
  (refine df (h2 f hf) fun k L o a b c d e=>?_)
  refine⟨k,L,o,a,hk _ _ (fun q=>B.offf ?_) b,c,d,e⟩
  unfold Mine.frs;rw[h1];exact List.mem_filterMap.mpr ⟨f,hf,by rw[a,q]⟩
 ·have:b≠I:=fun q=>h2 (q ▸ hX)
  exact⟨fun _=>hk b o this h3,o.slots,hk b o this h3⟩
structure Walk (G:Gd) (A:Around) (n₀:Nat) (π₀:PM) (xs:List AV) (ok:List AO→Prop) (I:Addr) (P:Nat→Heap→Prop):Prop where
 frame:∀k h h',P k h→h'.get? I=h.get? I→P k h'
 item:∀k a π σ s,xs[k]? = some a→ok σ→π₀.Ext π n₀→n₀≤σ.length→StC G.g A σ π s→Beside G A σ π s I→P k s.heap→∀ (Q:Option Value→Shared→Prop) E,
  (∀s' v,StC G.g A σ π s'→Fwd A (·=I) σ π s σ π s'→P (k+1) s'.heap→(∃o,s'.heap.get? I=some o)→VR π σ.length a v→Q (some v) s')→aS G.M A (pyNext (.ref I)) Q E s
 done:∀k π σ s,xs.length≤k→k≤xs.length→ok σ→π₀.Ext π n₀→n₀≤σ.length→StC G.g A σ π s→Beside G A σ π s I→P k s.heap→∀ (Q:Option Value→Shared→Prop) E,
  (∀s',StC G.g A σ π s'→Fwd A (·=I) σ π s σ π s'→Q none s')→aS G.M A (pyNext (.ref I)) Q E s
 again:∀k s,P k s.heap→∀ (A:Around) (Q:Value→Shared→Prop) E,Q (.ref I) s→aS G.M A (pyIter (.ref I)) Q E s
 go:∀k s,P k s.heap→∀ (A:Around) (target:Expr) (v:Value) (Q:Unit→Shared→Prop) E,Q () s→aS G.M A (letOwnedTupleGo target (.ref I) v) Q E s
theorem nr (ho:s.heap.get? I=some o) (hc:o.cls = .type T)
  (hT:["enumerate", "zip", "dict_itemiterator", "dict_reverseitemiterator", "odict_iterator", "itertools.zip_longest", "itertools.pairwise"].contains T=false) (hQ:Q () s):aS G.M A (letOwnedTupleGo target (.ref I) v) Q E s:=by
 have key:∀a,wpAny G.M A (do
   let o←load I
   match o.cls,o.data with
   | .type n,.fields vs =>
    if ["enumerate", "zip", "dict_itemiterator", "dict_reverseitemiterator", "odict_iterator", "itertools.zip_longest", "itertools.pairwise"].contains n && vs[0]? == some (rawInt a) then
     rule "for.unpacks-the-owned-tuple"
     updateField I 0 .none
   | _,_=>pure ()) Q E s:=fun a=>by
  refine wpAny_bind (wpAny_load ho ?_)
  rw[hc]
  cases o.data with
  | fields vs =>
   show wpAny _ A (if (_ && _)=true then _ else _) Q E s
   rw[if_neg (by intro h;rw[hT,Bool.false_and] at h;cases h)]
   exact wpAny_pure hQ
  | _=>exact wpAny_pure hQ
 refine bn ?_
 cases target<;>first | exact wpAny_pure hQ | (cases v<;>first | exact wpAny_pure hQ | exact key _)
def vA (G:Gd) (A:Around) (σ:LA) (a:AV) (xs:List AV) (ok:LA→Prop):Prop :=
 ∀π s v,StC G.g A σ π s→VR π σ.length a v→∀ (Q:VS) E,
  (∀I s' P,StC G.g A σ π s'→Fwd A cG σ π s σ π s'→s.heap.get? I=none→(∃o,s'.heap.get? I=some o)→P 0 s'.heap→Walk G A σ.length π xs ok I P→Q (.ref I) s')→aS G.M A (pyIter v) Q E s
inductive Lp (G:Gd) (F:Fx) (target:Expr) (body:List Stmt) (ok:List AO→Prop) (xs:List AV):Nat→List (Str×AV)→List AO→AFl→List (Str×AV)→List AO→Prop
 | done {k lv σ}:k=xs.length→ok σ→Lp G F target body ok xs k lv σ .next lv σ
 | step {k lv σ a lv₁ σ₁ fl lv₂ lw σ₂ f lv₃ σ₃}:xs[k]? = some a→ok σ→As G F lv σ target a lv₁ σ₁→Ex G F lv₁ σ₁ body fl lv₂ σ₂→fl = .next∨fl = .cont→Wk lv₂ lw→Lp G F target body ok xs (k+1) lw σ₂ f lv₃ σ₃→Lp G F target body ok xs k lv σ f lv₃ σ₃
 | ret {k lv σ a lv₁ σ₁ r lv₂ σ₂}:xs[k]? = some a→ok σ→As G F lv σ target a lv₁ σ₁→Ex G F lv₁ σ₁ body (.ret r) lv₂ σ₂→Lp G F target body ok xs k lv σ (.ret r) lv₂ σ₂
 | brk {k lv σ a lv₁ σ₁ lv₂ σ₂}:xs[k]? = some a→ok σ→As G F lv σ target a lv₁ σ₁→Ex G F lv₁ σ₁ body .brk lv₂ σ₂→Lp G F target body ok xs k lv σ .next lv₂ σ₂
abbrev jf (G:Gd) (F:Fx) (E:VS):VS:=jG G.M F.A F.env fun e s'=>fZ G.M F.A F.env E e s'
abbrev vj (G:Gd) (F:Fx) (target:Expr) (body:List Stmt) (Q:Flow→Shared→Prop) (E:VS) (more:Shared→Prop) (it:Value) (s:Shared):Prop :=
 aS G.M F.A (pyNext it) (fun r s₁=>match r with
  | none=>Q .next s₁
  | some v=>aS G.M F.A (letOwnedTupleGo target it v) (fun _ s₁'=>aS G.M F.A (assign target F.env v) (fun _ s₂=>aS G.M F.A (execs body F.env) (fun f s₃=>match f with
    | .next | .cont=>more s₃
    | .brk=>Q .next s₃
    | .ret v=>Q (.ret v) s₃) (jf G F E) s₂) (jf G F E) s₁') (jf G F E) s₁) (jf G F E) s
theorem iK (I:Nat→Shared→Prop)
  (turn:∀n s,I n s→vj G F target body Q E (fun s'=>∃m,m < n∧I m s') it s) (n:Nat) (h:I n s) :
  cS G.M F.A (.forLoop target it body [] F.env) (fun r s'=>match r with | .ok f=>Q f s' | .error e=>fZ G.M F.A F.env E e s') s:=by
 exact l0 I (fun n s hI=>bb (turn n s hI) (fun r s₁ h₁=>by
  cases r with
  | none=>exact h₁
  | some v=>exact bb h₁ (fun _ s₂ h₂=>bb h₂ (fun _ s₃ h₃=>bb h₃ (fun f s₄ h₄=>by cases f<;>exact h₄) fun _ _ x=>x) fun _ _ x=>x) fun _ _ x=>x) fun _ _ x=>x) n h
theorem Fwd.dom (W:Fwd A X σ π s σ' π' s') (S:StC g A σ' π' s') (hX:∀b,X b→∃o,s'.heap.get? b=some o) (h:s.heap.get? b=some o):∃o',s'.heap.get? b=some o':=by
 by_cases t:Tr π σ b
 ·exact S.rep.there (W.stay b t)
 ·by_cases x:X b
  ·exact hX b x
  ·(refine hZ (W.kept b o t x h) fun _ sl e=>?_);exact⟨_,e⟩
theorem cZ {h₀ h:Heap} (k:∀b o,h₀.get? b=some o→∃o',h.get? b=some o'):∀b,h.get? b=none→h₀.get? b=none:=fun b hb=>by
 cases q:h₀.get? b with
 | none=>rfl
 | some o=>(refine b8 (k b o q) fun o' e=>?_);rw[hb] at e;cases e
theorem Fwd.back (W:Fwd A cG σ π s σ' π' s') (S:StC g A σ' π' s'):∀b,s'.heap.get? b=none→s.heap.get? b=none:=cZ fun _ _ h=>W.dom S (fun _ x=>x.elim) h
theorem gR (S:St G F lv σ π s) (B:Beside G F.A σ π s I):∀b,b=F.env.locals∨b=I→Tr π σ b→False:=fun b hb t=>hb.elim (fun e=>S.trL (e ▸ t)) fun e=>B.off (e ▸ t)
theorem Fwd.dropI (W:Fwd A (fun b=>b=L∨b=I) σ π s σ' π' s') (hI:s.heap.get? I=none):Fwd A (·=L) σ π s σ' π' s' :=
 ⟨W.ext,W.len,fun b o h1 h2 h3=>W.kept b o h1 (fun q=>q.elim h2 fun q=>by subst q;rw[hI] at h3;cases h3) h3,W.fresh,W.stay,W.os,W.gens⟩
theorem St.fwdI (S:St G F lv σ π s) (C:StC G.g F.A σ π s') (W:Fwd F.A (·=I) σ π s σ π s') (h:F.env.locals≠I):St G F lv σ π s':=by
 (refine aF (S.loc) fun m zz1 l4=>?_;refine cQ zz1 fun o es ep l1 l2 l3=>?_)
 (refine hZ (W.kept _ _ S.trL h l1) fun _ sl l5=>?_)
 exact⟨C,⟨m,⟨_,es,ep,l5,l2,l3⟩,l4⟩,S.gL,S.trL,S.cells⟩
theorem St.neI (S:St G F lv σ π s) (h:s.heap.get? I=none):F.env.locals≠I:=fun q=>by
 (refine aF (S.loc) fun m zz14 _=>?_;refine cM zz14 fun o _ _ h1 _=>?_)
 rw[q,h] at h1;cases h1
theorem xP (ev:Ev G F lv σ iter x σ₁) (it:vA G F.A σ₁ x xs ok) (lp:Lp G F target body ok xs 0 lv σ₁ f lv₂ σ₂)
  (hs:∀env x,foldedSetIterable iter env x=pure x:=by intro _ _;rfl) :
  ou G F lv σ (.For target iter body [] pos) f lv₂ σ₂:=fun π s S Q E h=>by
 refine qZ (ev π s S _ E fun π₁ s₁ v₁ C₁ W₁ R₁=>it π₁ s₁ v₁ C₁ R₁ _ E fun I s₂ P C₂ W₂ hI hI' P0 WK=>?_) (hs _)
 have B₂:=Beside.new (G:=G) C₁ hI C₂ hI'
 have hLI:=(S.fwd C₁ W₁).neI hI
 let Inv:Nat→Shared→Prop:=fun m s'=>∃k lvk σk πk,m=xs.length+1 - k∧k≤xs.length∧Lp G F target body ok xs k lvk σk f lv₂ σ₂∧St G F lvk σk πk s'∧Fwd F.A (fun b=>b=F.env.locals∨b=I) σ₁ π₁ s₂ σk πk s'∧Beside G F.A σk πk s' I∧P k s'.heap
 have fin:∀π' s' fl,St G F lv₂ σ₂ π' s'→Fwd F.A (fun b=>b=F.env.locals∨b=I) σ₁ π₁ s₂ σ₂ π' s'→C3 π' σ₂.length f fl→Q fl s':=fun π' s' fl S' W' R' =>
  h π' s' fl S' (((W₁.transN W₂).toX.trans W' fun b hb t=>hb.elim (fun e=>S'.trL (e ▸ t)) fun e=>(W'.fresh _ (e ▸ t)).elim B₂.off fun q=>by(refine b8 hI' fun o ho=>?_);rw[ho] at q;cases q).dropI (W₁.back C₁ I hI)) R'
 refine iK Inv (fun n s' hInv=>?_) _ ⟨0,lv,σ₁,π₁,rfl,Nat.zero_le _,lp,S.fwd C₂ (W₁.transN W₂),(C₂.same).toX,B₂,P0⟩
 (refine jl hInv fun k lvk σk πk hm hk hlp Sk Wk Bk Pk=>?_;clear hInv)
 have turn:∀a lv₁' σ₁' fl lv₂' σ₂',xs[k]? = some a→ok σk→As G F lvk σk target a lv₁' σ₁'→Ex G F lv₁' σ₁' body fl lv₂' σ₂' →
   (∀π' s₄ fl',C3 π' σ₂'.length fl fl'→St G F lv₂' σ₂' π' s₄→Fwd F.A (fun b=>b=F.env.locals∨b=I) σ₁ π₁ s₂ σ₂' π' s₄→Beside G F.A σ₂' π' s₄ I→P (k+1) s₄.heap →
    (match fl' with
     | .next | .cont=>∃m,m < n∧Inv m s₄
     | .brk=>Q .next s₄
     | .ret v=>Q (.ret v) s₄)) →
   vj G F target body Q E (fun s'=>∃m,m < n∧Inv m s') (.ref I) s':=fun a lv₁' σ₁' fl lv₂' σ₂' ha hok has hex goal=>by
  refine WK.item k a πk σk s' ha hok Wk.ext Wk.len Sk.c Bk Pk _ _ fun s₅ v C₅ W₅ P₅ T₅ R₅=>WK.go _ _ P₅ _ _ _ _ _ (has πk s₅ v (Sk.fwdI C₅ W₅ hLI) R₅ _ _ fun π₆ s₆ S₆ W₆=>hex π₆ s₆ S₆ _ _ fun π₇ s₇ fl' S₇ W₇ R₇=>?_)
  (refine bD (Beside.fwd ⟨T₅,Bk.off,Bk.offg,Bk.offf⟩ W₆ hLI.symm) fun B₆ e₆=>?_)
  (refine bD (B₆.fwd W₇ hLI.symm) fun B₇ e₇=>?_)
  exact goal π₇ s₇ fl' R₇ S₇ (((Wk.trans (W₅.widen fun _ q => .inr q) (gR Sk Bk)).trans (W₆.widen fun _ q => .inl q) (gR S₆ B₆)).trans (W₇.widen fun _ q => .inl q) (gR S₇ B₇)) B₇ (WK.frame _ _ _ P₅ (e₇.trans e₆))
 cases hlp with
 | done h1 h2=>exact WK.done k πk _ s' (Nat.le_of_eq h1.symm) hk h2 Wk.ext Wk.len Sk.c Bk Pk _ _ fun s₅ C₅ W₅=>fin _ s₅ .next (Sk.fwdI C₅ W₅ hLI) (Wk.trans (W₅.widen fun _ q => .inr q) (gR Sk Bk)) rfl
 | step ha hok has hex hfl hwk hrest =>
  have hlt:k < xs.length:=(List.getElem?_eq_some_iff.mp ha).1
  refine turn _ _ _ _ _ _ ha hok has hex fun π' s₄ fl' R' S' W' B' P'=>?_
  have:∃m,m < n∧Inv m s₄:=⟨xs.length+1 - (k+1),hm ▸ Nat.sub_lt_sub_left (Nat.lt_succ_of_lt hlt) (Nat.lt_succ_self k),k+1,_,_,π',rfl,hlt,hrest,S'.wk hwk,W',B',P'⟩
  rcases hfl with rfl | rfl<;>cases R'<;>exact this
 | ret ha hok has hex =>
  refine turn _ _ _ _ _ _ ha hok has hex fun π' s₄ fl' R' S' W' B' P'=>?_
  have q:=fin _ s₄ fl' S' W' R'
  (refine aF R' fun v zz43 _=>?_;clear R';subst zz43)
  exact q
 | brk ha hok has hex=>exact turn _ _ _ _ _ _ ha hok has hex fun π' s₄ fl' R' S' W' B' P'=>by cases R';exact fin _ s₄ .next S' W' rfl
theorem jv (hh:A.handled=none) (hi:σ[i]? = some (.list xs)):vA G A σ (.dyn i) xs (fun σ'=>σ'[i]? = some (.list xs)):=fun π s v S hv Q E h=>by
 (refine bD hv fun hlt zz45=>?_;clear hv;subst zz45)
 (refine aF (S.rep.at_ i _ hi) fun vs hl hvs=>?_)
 refine bn (wpAny_pyIter_list hl.isList ?_)
 (refine bD (S.keeps (X:=cG) (s':={ s with heap:=s.heap.push { cls := .type "list_iterator",data := .fields #[.ref (π.a i),.int 0 0] } }) bw rfl rfl) fun C W=>?_)
 refine h s.heap.objs.size _ (fun k h=>h.IsListIter s.heap.objs.size (π.a i) k) C W (aC _) ⟨_,Heap.get?_push_size _ rfl⟩ ⟨_,Heap.get?_push_size _ rfl,rfl,rfl⟩ ⟨?_,?_,?_,fun k s P A Q E h=>bn (wpAny_pyIter_listiter P h),fun k s ⟨o,P1,P2,_⟩ A t v Q E h=>nr P1 P2 (by decide) h⟩
 ·rintro k h h' ⟨o,h1,h2⟩ e
  exact⟨o,e.trans h1,h2⟩
 ·intro k a π' σ' s' ha hok he hn S' B' P' Q' E' h'
  (refine aF (S'.rep.at_ i _ hok) fun vs' hl' hvs'=>?_)
  rw[he.a i hlt] at hl'
  (refine aF (All2.get hvs' ha) fun v hv1 hv2=>?_)
  refine bn (wpAny_pyNext_list_item P' hl'.isList (x:=v) (by simpa using hv1) fun h'' hit hsb=>?_)
  (refine bD (S'.beside (X:=(·=s.heap.objs.size)) (s':={ s' with heap:=h'' }) B' (fun b o hb e=>(hsb.2 b hb).trans e) rfl rfl rfl) fun C' W'=>?_)
  exact h' _ v C' W' hit (let ⟨o,q,_⟩:=hit;⟨o,q⟩) hv2
 ·intro k π' σ' s' hk _ hok he hn S' B' P' Q' E' h'
  (refine aF (S'.rep.at_ i _ hok) fun vs' hl' hvs'=>?_)
  rw[he.a i hlt] at hl'
  refine bn (wpAny_pyNext_list_end hh P' hl'.isList (by simp[← hvs'.length,hk]) fun h'' hsb=>?_)
  (refine bD (S'.beside (X:=(·=s.heap.objs.size)) (s':={ s' with heap:=h'' }) B' (fun b o hb e=>hsb b o hb e) rfl rfl rfl) fun C' W'=>?_)
  exact h' _ C' W'
end
end
section
section
variable {G:Gd} {F:Fx} {A:Around} {lv lv' lv'' lv₁ lv₂:List (Str×AV)} {σ σ' σ'' σ₁ σ₂ σ₃ σ₄:List AO} {π π':PM} {s s':Shared} {a b:Int}
theorem da (h:∀x y (s:Shared) (Q:Value→Shared→Prop) E,Q (.int r s.toks) { s with toks:=s.toks+1 }→wpAny G.M A (t (.int a x) (.int b y)) Q E s):fy G A σ t (.int a) (.int b) (.int r) σ:=fun π s v u S hv hu Q E hq=>by
 (refine b8 hv fun x zz1=>?_;clear hv;subst zz1)
 (refine b8 hu fun y zz2=>?_;clear hu;subst zz2)
 refine bn (h x y s Q E ?_)
 (refine bD (S.toks (X:=cG) (s.toks+1)) fun C W=>?_)
 exact hq π _ _ C W ⟨_,rfl⟩
theorem eH (h:∀x y (s:Shared) (Q:Value→Shared→Prop) E,Q (.bool r) s→wpAny G.M A (t (.int a x) (.int b y)) Q E s):fy G A σ t (.int a) (.int b) (.bool r) σ:=fun π s v u S hv hu Q E hq=>by
 (refine b8 hv fun x zz3=>?_;clear hv;subst zz3)
 (refine b8 hu fun y zz4=>?_;clear hu;subst zz4)
 exact bn (h x y s Q E (hq π _ _ S S.same rfl))
theorem bh:fy G A σ (binaryOp .Add) (.int a) (.int b) (.int (a+b)) σ:=da fun _ _ _ _ _ q=>PyProof.Rows.add_int q
theorem cC:fy G A σ (binaryOp .Sub) (.int a) (.int b) (.int (a - b)) σ:=da fun _ _ _ _ _ q=>PyProof.Rows.sub_int q
theorem fO (h:IntMulOk a b):fy G A σ (binaryOp .Mult) (.int a) (.int b) (.int (a*b)) σ:=da fun _ _ _ _ _ q=>PyProof.Rows.mul_int q h
theorem cF (h1 : -(2 ^ 64) < k) (h2:k < 2 ^ 64):IntMulOk a k := .of_right (intBits_le_64 h1 h2)
theorem kL (h1 : -(2 ^ 64) < k) (h2:k < 2 ^ 64):IntMulOk k b := .of_left (intBits_le_64 h1 h2)
theorem cw (h:0 < b):fy G A σ (binaryOp .Mod) (.int a) (.int b) (.int (a % b)) σ:=da fun _ _ _ _ _ q =>
 PyProof.Rows.mod_int (Int.ne_of_gt h) (by rw[Int.fmod_eq_emod_of_nonneg a (Int.le_of_lt h)];exact q)
theorem j2 (h:y.natAbs < 2 ^ 64):Builtin.divisionGoesByPylong x y=false:=by
 refine PyProof.noPylong_of_log2 ?_
 by_cases h0:y.natAbs=0
 ·rw[h0];decide +kernel
 ·exact Nat.lt_trans ((Nat.log2_lt h0).mpr h) (by decide)
theorem qy (h:0 < b) (h2:b < 2 ^ 64):fy G A σ (binaryOp .FloorDiv) (.int a) (.int b) (.int (a / b)) σ:=da fun _ _ _ _ _ q =>
 PyProof.Rows.floordiv_int (Int.ne_of_gt h) (by rw[Int.fdiv_eq_ediv_of_nonneg a (Int.le_of_lt h)];exact q) (.inl (j2 (by omega)))
theorem dN:fy G A σ (compareOp .Lt) (.int a) (.int b) (.bool (decide (a < b))) σ:=eH fun _ _ _ _ _ q=>PyProof.Rows.lt_int q
theorem fk:fy G A σ (compareOp .Gt) (.int a) (.int b) (.bool (decide (b < a))) σ:=eH fun _ _ _ _ _ q=>PyProof.Rows.gt_int q
theorem bL:fy G A σ (compareOp .Eq) (.int a) (.int b) (.bool (a==b)) σ:=eH fun _ _ _ _ _ q=>PyProof.Rows.eq_int q
theorem fj:fy G A σ (compareOp .NotEq) (.int a) (.int b) (.bool (a != b)) σ:=eH fun _ _ _ _ _ q=>PyProof.Rows.ne_int q
theorem VRs.size (x:VRs π n as vs):vs.toArray.size=as.length:=by rw[List.size_toArray];exact(All2.length x).symm
theorem pM (hi:σ[i]? = some (.list xs)) (hn:(xs.length:Int) < 2 ^ 63):Cl G A σ (.builtin "len") [.dyn i] (.int xs.length) σ:=fun π s fv vs S hf hv Q E hq=>by
 subst hf
 (refine b8 (All2.get hv (i:=0) rfl) fun _ hl=>?_)
 cases hv with
 | cons h1 h2 =>
  cases h2
  (refine bD h1 fun _ zz5=>?_;clear h1;subst zz5)
  (refine aF (S.rep.at_ i _ hi) fun vs hl hvs=>?_)
  refine bn (call_len_list hl.isList (by rw[VRs.size hvs];exact hn) ?_)
  rw[VRs.size hvs]
  (refine bD (S.toks (X:=cG) (s.toks+1+1)) fun C W=>?_)
  exact hq π _ _ C W ⟨_,rfl⟩
theorem vn (hi:σ[i]? = some (.list xs)) (h0:0≤k) (hk:k < 2 ^ 63) (hx:xs[k.toNat]? = some x)
  (hs:∀o i,subscripted slice false o i=operate [o,i] (getItem o i):=by intro _ _;with_unfolding_all rfl):Sub G A σ slice (.dyn i) (.int k) x σ:=fun value π s v u S hv hu Q E hq=>by
 (refine bD hv fun _ zz7=>?_;clear hv;subst zz7)
 (refine b8 hu fun t zz8=>?_;clear hu;subst zz8)
 (refine aF (S.rep.at_ i _ hi) fun vs hl hvs=>?_)
 (refine aF (All2.get hvs hx) fun y hy1 hy2=>?_)
 exact bn (tail_any hl.isList.typeIs slot_list_getitem.lookup (wpAny_getItem_list hl.isList h0 hk (by simpa using hy1) (hq π s y S S.same hy2)) (hs _ _))
theorem fT {k:Int} (hl:s.heap.PlainList l items) (h0:0≤k) (hfit:k < 2 ^ 63) (hn:k < items.size)
  (hQ:∀h',h'.PlainList l (items.setIfInBounds k.toNat v)→Heap.SameBut l s.heap h'→Q () { s with heap:=h' }):wpAny (model prog w) A (setItem (.ref l) (.int k t) v) Q E s:=by
 (refine b8 (id hl) fun m ho=>?_)
 have hT:=hl.isList.typeIs
 unfold setItem
 refine wpAny_holding ?_
 refine wpAny_bind (wpAny_sequenceKey hT (by decide) ?_)
 refine wpAny_bind (wpAny_callSpecial?_slot (name:=Str.ofString "__setitem__") hT slot_list_setitem (wpAny_call_entry slot_list_setitem hT entry_list_setitem ?_ (args_list_setitem _ _ _)))
 show wpAny _ _ (Builtin.List.listSubscript? (.int k t) >>= _) _ _ s
 refine wpAny_bind (wpAny_listSubscript_int (fitsIndex_of h0 hfit) ?_)
 (refine b8 (Int.eq_ofNat_of_zero_le h0) fun j zz11=>?_;subst zz11)
 have hj:j < items.size:=Int.ofNat_lt.mp (jk hn)
 show wpAny _ _ ((seqItemAt l j >>= fun r=>pure (r.map (j,·))) >>= _) _ _ s
 refine wpAny_bind (wpAny_bind (wpAny_seqItemAt ho rfl (wpAny_pure ?_)))
 rw[show items[j]? = some items[j] from Array.getElem?_eq_getElem hj]
 show wpAny _ _ (setSeqItemAt l j v >>= _) _ _ s
 refine wpAny_bind (wpAny_setSeqItemAt ho rfl ?_)
 have hfin:(s.heap.update l (Obj.mapSeq (·.setIfInBounds j v))).PlainList l (items.setIfInBounds j v):=⟨m,by
  rw[Heap.get?_update_self _ ho (by simp[Obj.mapSeq,Obj.isFreed])]
  simp[Obj.mapSeq]⟩
 exact wpAny_pure ⟨.none,rfl,wpAny_pure (hQ _ hfin (Heap.SameBut.update ..))⟩
theorem lG {k:Int} (hi:σ[i]? = some (.list xs)) (h0:0≤k) (hk:k < 2 ^ 63) (hn:k < xs.length) (hy:xs.set k.toNat x=ys):tC G A σ setItem (.dyn i) (.int k) x (σ.set i (.list ys)):=fun π s v u y S hv hu hy' Q E hq=>by
 subst hy
 (refine bD hv fun _ zz12=>?_;clear hv;subst zz12)
 (refine b8 hu fun t zz13=>?_;clear hu;subst zz13)
 (refine aF (S.rep.at_ i _ hi) fun vs hl hvs=>?_)
 refine bn (fT hl h0 hk (by rw[VRs.size hvs];exact hn) fun h' hl' hb=>?_)
 obtain⟨C,W⟩:=S.update (X:=cG) (s':={ s with heap:=h' }) (o' := .list (xs.set k.toNat x)) hi rfl (fun b ob hb' e=>(hb.2 b (fun q=>hb' (by simp[own,q]))).trans e) ⟨vs.set k.toNat y,by
  simpa using hl',All2.set hvs _ hy'⟩ rfl rfl
 exact hq π _ C W
theorem xH (hi:σ[i]? = some (.list xs)) (slot:Slot "list" name mid) (hty:typeOf (.builtin mid)=pure (.type "method_descriptor")):Gm G A σ (.dyn i) name (.builtin mid) [.dyn i]:=fun π s v S hv pl Q E hq=>by
 have hv':=hv
 (refine bD hv fun _ zz15=>?_;clear hv;subst zz15)
 (refine aF (S.rep.at_ i _ hi) fun vs hl hvs=>?_)
 (refine b8 (id hl) fun n ho=>?_)
 exact bn (getMethod_builtin hl.isList.typeIs F.plainAttrs_list slot hty (fun a e=>by cases e;exact⟨_,ho,rfl⟩) (hq s _ _ S S.same rfl (.cons hv' .nil)))
theorem s7 (hi:σ[i]? = some (.list xs)):Gm G A σ (.dyn i) "append" (.builtin "list.append") [.dyn i]:=xH hi slot_list_append (by show builtinType _=_;rw[builtinType_eq_fast];kernel_rfl)
theorem tO (hi:σ[i]? = some (.list xs)) (hn:xs.length≤sizeLine):Cl G A σ (.builtin "list.append") [.dyn i,x] .none (σ.set i (.list (xs++[x]))):=fun π s fv vs S hf hv Q E hq=>by
 subst hf
 cases hv with
 | cons h1 h2 =>
  cases h2 with
  | cons h2 h3 =>
   cases h3
   (refine bD h1 fun _ zz17=>?_;clear h1;subst zz17)
   (refine aF (S.rep.at_ i _ hi) fun vs hl hvs=>?_)
   refine bn (wpAny_list_append_plain hl (fun h' hl' hb=>?_) (by rw[VRs.size hvs];exact hn))
   obtain⟨C,W⟩:=S.update (X:=cG) (s':={ s with heap:=h' }) (o' := .list (xs++[x])) hi rfl (fun b ob hb' e=>(hb.2 b (fun q=>hb' (by simp[own,q]))).trans e) ⟨vs++[_],by
    simpa using hl',All2.append hvs (.cons h2 .nil)⟩ rfl rfl
   exact hq π _ _ C W rfl
def jw (G:Gd) (A:Around) (σ:List AO) (a:AV):Prop:=∀π s v,StC G.g A σ π s→VR π σ.length a v→∃T f,s.TypeIs v T∧typeLookup (.type T) "__iter__" = pure (some f)
theorem n7 (hi:σ[i]? = some (.list xs)):jw G A σ (.dyn i):=fun π s v S hv=>by
 (refine bD hv fun _ zz19=>?_;clear hv;subst zz19)
 (refine aF (S.rep.at_ i _ hi) fun vs hl hvs=>?_)
 exact⟨_,_,hl.isList.typeIs,slot_list_iter.lookup⟩
theorem iP (hi:σ[i]? = some (.tuple xs)):jw G A σ (.dyn i):=fun π s v S hv=>by
 (refine bD hv fun _ zz21=>?_;clear hv;subst zz21)
 (refine aF (S.rep.at_ i _ hi) fun vs hl hvs=>?_)
 exact⟨_,_,hl.typeIs,F.slot_tuple_iter.lookup⟩
theorem mX (hh:A.handled=none) (hi:σ[i]? = some (.tuple xs)):vA G A σ (.dyn i) xs (fun σ'=>σ'[i]? = some (.tuple xs)):=fun π s v S hv Q E h=>by
 (refine bD hv fun hlt zz23=>?_;clear hv;subst zz23)
 (refine aF (S.rep.at_ i _ hi) fun vs hl hvs=>?_)
 refine bn (wpAny_pyIter_tuple hl ?_)
 (refine bD (S.keeps (X:=cG) (s':={ s with heap:=s.heap.push { cls := .type "tuple_iterator",data := .fields #[.ref (π.a i),.int 0 0] } }) bw rfl rfl) fun C W=>?_)
 refine h s.heap.objs.size _ (fun k h=>h.IsTupleIter s.heap.objs.size (π.a i) k) C W (aC _) ⟨_,Heap.get?_push_size _ rfl⟩ ⟨_,Heap.get?_push_size _ rfl,rfl,rfl⟩ ⟨?_,?_,?_,fun k s P A Q E h=>bn (wpAny_pyIter_tupleiter P h),fun k s ⟨o,P1,P2,_⟩ A t v Q E h=>nr P1 P2 (by decide) h⟩
 ·rintro k h h' ⟨o,h1,h2⟩ e
  exact⟨o,e.trans h1,h2⟩
 ·intro k a π' σ' s' ha hok he hn S' B' P' Q' E' h'
  (refine aF (S'.rep.at_ i _ hok) fun vs' hl' hvs'=>?_)
  rw[he.a i hlt] at hl'
  (refine aF (All2.get hvs' ha) fun v hv1 hv2=>?_)
  refine bn (wpAny_pyNext_tuple_item P' hl' (x:=v) (by simpa using hv1) fun h'' hit hsb=>?_)
  (refine bD (S'.beside (X:=(·=s.heap.objs.size)) (s':={ s' with heap:=h'' }) B' (fun b o hb e=>(hsb.2 b hb).trans e) rfl rfl rfl) fun C' W'=>?_)
  exact h' _ v C' W' hit (let ⟨o,q,_⟩:=hit;⟨o,q⟩) hv2
 ·intro k π' σ' s' hk _ hok he hn S' B' P' Q' E' h'
  (refine aF (S'.rep.at_ i _ hok) fun vs' hl' hvs'=>?_)
  rw[he.a i hlt] at hl'
  refine bn (wpAny_pyNext_tuple_end hh P' hl' (by simp[← hvs'.length,hk]) fun h'' hsb=>?_)
  (refine bD (S'.beside (X:=(·=s.heap.objs.size)) (s':={ s' with heap:=h'' }) B' (fun b o hb e=>hsb b o hb e) rfl rfl rfl) fun C' W'=>?_)
  exact h' _ C' W'
theorem mS (WK:Walk G A n₀ π₀ xs ok I P) (hok:ok σ) (he:π₀.Ext π n₀) (hn:n₀≤σ.length):∀ (n k:Nat) (s:Shared) (Q:List Value→Shared→Prop) E,
  k+n≤xs.length→StC G.g A σ π s→Beside G A σ π s I→P k s.heap →
  (∀s' vs,StC G.g A σ π s'→Fwd A (·=I) σ π s σ π s'→Beside G A σ π s' I→P (k+n) s'.heap→VRs π σ.length ((xs.drop k).take n) vs→Q vs s')→aS G.M A (draw (.ref I) n) Q E s
 | 0,k,s,Q,E,_,S,B,p,h=>ak (h s [] S (S.same.toX) B p (by simp;exact .nil))
 | n+1,k,s,Q,E,hle,S,B,p,h=>by
  have hlt:k < xs.length:=mI hle (Nat.zero_le n)
  show aS _ _ (pyNext (.ref I) >>= _) Q E s
  refine ae (WK.item k xs[k] π σ s (by simp[hlt]) hok he hn S B p _ E fun s₁ v S₁ W₁ p₁ t₁ R₁=>?_)
  have B₁:Beside G A σ π s₁ I:=⟨t₁,B.off,B.offg,B.offf⟩
  refine ae (aq (mS WK hok he hn n (k+1) s₁ _ E (lU hle) S₁ B₁ p₁ fun s₂ vs S₂ W₂ B₂ p₂ R₂=>ak ?_))
  refine h s₂ _ S₂ (W₁.trans W₂ fun b hb t=>B₂.off (hb ▸ t)) B₂ (by rw[show k+(n+1)=k+1+n by exact Nat.le_antisymm (Dk) (Dk)];exact p₂) ?_
  rw[List.drop_eq_getElem_cons hlt,List.take_succ_cons]
  exact .cons R₁ R₂
def BD (G:Gd) (F:Fx) (lv:List (Str×AV)) (σ:List AO) (ts:List (Value→Sem Unit)) (as:List AV) (lv':List (Str×AV)) (σ':List AO):Prop :=
 ∀π s vs,St G F lv σ π s→VRs π σ.length as vs→∀ (Q:Unit→Shared→Prop) E,(∀π' s',St G F lv' σ' π' s'→Fwd F.A (·=F.env.locals) σ π s σ' π' s'→Q () s')→aS G.M F.A (assignInOrder ts vs) Q E s
theorem yp:BD G F lv σ [] [] lv σ:=fun π s vs S hv Q E h=>by
 cases hv;exact ak (h π s S S.c.same.toX)
theorem wG {a:AV} (x:As G F lv σ t a lv₁ σ₁) (y:BD G F lv₁ σ₁ ts as lv₂ σ₂):BD G F lv σ (assign t F.env::ts) (a::as) lv₂ σ₂:=fun π s vs S hv Q E h=>by
 cases hv with
 | cons h1 h2 =>
  show aS G.M F.A (do holding _ (assign t F.env _);assignInOrder ts _) Q E s
  exact ae (aq (x π s _ S h1 _ E fun π₁ s₁ S₁ W₁=>y π₁ s₁ _ S₁ (VRs.mono h2 W₁.ext W₁.len) _ E fun π₂ s₂ S₂ W₂=>h π₂ s₂ S₂ (S₂.transL W₁ W₂)))
theorem fV {a:AV} {xs:List AV} {ok:List AO→Prop} (hi:jw G A σ a) (it:vA G A σ a xs ok) (hok:ok σ) {v:Value} (S:StC G.g A σ π s) (hv:VR π σ.length a v) {Q:List Value→Shared→Prop} {E:Value→Shared→Prop}
  (h:∀s' vs,StC G.g A σ π s'→Fwd A cG σ π s σ π s'→VRs π σ.length xs vs→Q vs s'):aS G.M A (unpackItems v xs.length none) Q E s:=by
 (refine ci (hi π s v S hv) fun T f hT hl=>?_)
 unfold unpackItems
 refine ae ?_
 unfold notIterableAtAll
 refine ae (bn (wpAny_specialOf hT hl ?_))
 refine ak ?_
 simp only[Bool.false_eq_true,if_false]
 refine ae (aq (it π s v S hv _ E fun I s₁ P S₁ W₁ n₁ t₁ p₁ WK=>?_))
 have B₁:=Beside.new S n₁ S₁ t₁
 refine ae (aq (mS WK hok (.refl ..) (Nat.le_refl _) xs.length 0 s₁ _ E (by simp) S₁ B₁ p₁ fun s₂ vs S₂ W₂ B₂ p₂ R₂=>?_))
 have hall:List.take xs.length (List.drop 0 xs)=xs:=by rw[List.drop_zero];exact List.take_of_length_le (Nat.le_refl _)
 rw[hall] at R₂
 rw[if_neg (by rw[← R₂.length];exact Nat.lt_irrefl _)]
 refine ae (aq (WK.done (0+xs.length) π σ s₂ (Nat.le_add_left _ _) (by simp) hok (.refl ..) (Nat.le_refl _) S₂ B₂ p₂ _ E fun s₃ S₃ W₃=>?_))
 simp only[Option.isSome_none,Bool.false_eq_true,if_false]
 have W₂₃:Fwd A (·=I) σ π s₁ σ π s₃:=W₂.trans W₃ fun b hb t=>B₂.off (hb ▸ t)
 have W:Fwd A (·=I) σ π s σ π s₃:=W₁.toX.trans W₂₃ fun b hb t=>B₂.off (hb ▸ t)
 refine ak (h s₃ vs S₃ ⟨W.ext,W.len,fun b o h1 _ h3=>W.kept b o h1 (fun q=>?_) h3,W.fresh,W.stay,W.os,W.gens⟩ R₂)
 subst q
 rw[n₁] at h3;cases h3
theorem wz {a:AV} (hi:jw G F.A σ a) (it:vA G F.A σ a xs ok) (hok:ok σ) (hn:es.length=xs.length)
  (y:BD G F lv σ ((assignEach es F.env).map (·.2)) xs lv₁ σ₁) (hl:∀env,(assignEach es env).length=es.length:=by intro _;rfl) (hst:∀env,(assignEach es env).findIdx? (·.1)=none:=by intro _;rfl):As G F lv σ (.Tuple es k pos) a lv₁ σ₁:=fun π s v S hv Q E h=>by
 rw[arm_assign_Tuple]
 refine ae (bz ?_)
 unfold unpack
 rw[hst,hl,hn]
 exact ae (aq (fV hi it hok S.c hv fun s₁ vs S₁ W₁ R₁=>y π s₁ vs (S.fwd S₁ W₁) R₁ _ E fun π₂ s₂ S₂ W₂=>h π₂ s₂ S₂ (S₂.transL W₁.toX W₂)))
end
end
section
theorem aN:(Str.ofString a=Str.ofString b)↔a=b:=by
 constructor
 ·intro h
  rw[Str.ofString_eq_toList,Str.ofString_eq_toList] at h
  have h1:a.toList.map Char.toNat=b.toList.map Char.toNat:=by
   have:=congrArg (fun s:Str=>s.cps.toList) h
   simpa using this
  have inj:∀ (l m:List Char),l.map Char.toNat=m.map Char.toNat→l=m:=fun l=>by
   induction l with
   | nil=>intro m h;cases m<;>simp_all
   | cons c l ih =>
    intro m h
    cases m with
    | nil=>simp at h
    | cons d m =>
     simp only[List.map_cons,List.cons.injEq] at h
     rw[Char.toNat_inj.mp h.1,ih m h.2]
  exact String.toList_injective (inj _ _ h1)
 ·rintro rfl;rfl
theorem bG:(Str.ofString a==Str.ofString b)=(a==b):=by
 by_cases h:a=b
 ·subst h;simp
 ·rw[beq_eq_false_iff_ne.mpr h,beq_eq_false_iff_ne.mpr fun q=>h (aN.mp q)]
structure Bs (G:Gd) (gt bt:List (Str×AV)):Prop where
 glob:∀x a,gt.lookup x=some a→iX G mainGlobals x a
 blt:∀x a,bt.lookup x=some a→pO G mainGlobals builtinsNs x a
theorem uP {σ:List AO} (h:n=σ.length):(σ++[x])[n]? = some x:=by subst h;simp
theorem ad {σ l:List AO} {i:Nat} (h:σ[i]? = some o):(σ++l)[i]? = some o:=by
 rw[List.getElem?_append_left (List.getElem?_eq_some_iff.mp h).1];exact h
theorem aU {σ:List AO} (h:σ[i]? = some o):(σ.set i x)[i]? = some x:=by
 rw[List.getElem?_set_self (List.getElem?_eq_some_iff.mp h).1]
theorem ah {σ:List AO} (hij:i≠j) (h:σ[j]? = some o):(σ.set i x)[j]? = some o:=by
 rw[List.getElem?_set_ne hij];exact h
theorem cg {a b:Int} (h:a=b):(a==b)=true:=by subst h;simp
theorem dU {a b:Int} (h:a≠b):(a != b)=true:=by simpa using h
theorem av {a b:Int} (h:a≠b):(a==b)=false:=by simpa using h
theorem cj {a b:Int} (h:a=b):(a != b)=false:=by subst h;simp
theorem uw (h:b=false):(!b)=true:=by subst h;rfl
theorem eF (h:b=true):(!b)=false:=by subst h;rfl
variable {G:Gd} {F:Fx} {A:Around} {lv lv' lv'' lv₁ lv₂:List (Str×AV)} {σ σ' σ'' σ₁ σ₂ σ₃ σ₄:List AO}
structure Sc (F:Fx) (ls cs gs:List Str):Prop where
 kind:F.env.scope.kind = .function
 loc:∀x,ls.contains x=true→F.env.kindOf x=some .local
 cell:∀x,cs.contains x=true→F.env.kindOf x=some .cell∨F.env.kindOf x=some .free
 glob:∀x,gs.contains x=true→F.env.kindOf x=some .globalImplicit
 globals:F.env.globals=mainGlobals
 builtins:F.env.builtins=builtinsNs
structure Fm (F:Fx):Prop where
 fr:∃A₀:Around,F.A.frames=A₀.frames.map (F.env::·)
 own:∃L,F.env.frame=some L
theorem iZ (S:Sc F ls cs gs) (h:ls.contains (Str.ofString x)=true) (hv:lv.lookup (Str.ofString x)=some a) (hu:a ≠ .unk) (hd:x ≠ "__debug__"):Ev G F lv σ (.Name (Str.ofString x) pos) a σ :=
 vT S.kind (S.loc _ h) hv hu (by rw[bG];exact beq_eq_false_iff_ne.mpr hd)
theorem zJ (S:Sc F ls cs gs) (h:cs.contains (Str.ofString x)=true) (hi:F.cl.lookup (Str.ofString x)=some i) (hv:σ[i]? = some (.cell (some a))) (hd:x ≠ "__debug__") (hn:x ≠ "__classdict__"):Ev G F lv σ (.Name (Str.ofString x) pos) a σ :=
 vX S.kind (S.cell _ h) hi hv (by rw[bG];exact beq_eq_false_iff_ne.mpr hn) (by rw[bG];exact beq_eq_false_iff_ne.mpr hd)
theorem zH (S:Sc F ls cs gs) (B:Bs G gt bt) (h:gs.contains (Str.ofString x)=true) (hv:gt.lookup (Str.ofString x)=some a) (hd:x ≠ "__debug__"):Ev G F lv σ (.Name (Str.ofString x) pos) a σ :=
 xT S.kind (S.glob _ h) (by rw[S.globals];exact B.glob _ _ hv) (by rw[bG];exact beq_eq_false_iff_ne.mpr hd)
theorem vZ (S:Sc F ls cs gs) (B:Bs G gt bt) (h:gs.contains (Str.ofString x)=true) (hv:bt.lookup (Str.ofString x)=some a) (hd:x ≠ "__debug__"):Ev G F lv σ (.Name (Str.ofString x) pos) a σ :=
 zK S.kind (S.glob _ h) (by rw[S.globals,S.builtins];exact B.blt _ _ hv) (by rw[bG];exact beq_eq_false_iff_ne.mpr hd)
theorem z7 (S:Sc F ls cs gs) (h:ls.contains (Str.ofString x)=true) (hp:put (Str.ofString x) a lv=lv'):As G F lv σ (.Name (Str.ofString x) pos) a lv' σ:=hp ▸ rL S.kind (S.loc _ h)
theorem ry (S:Sc F ls cs gs) (x:Ev G F lv σ e a σ₁) (hs:∀env,swapsWith e none pos.line env=pure false:=by intro _;rfl):ou G F lv σ (.Expr e pos) .next lv σ₁:=vM S.kind x hs
structure ScopeOk (fd:FuncData) (names ls gs:List Str):Prop where
 kind:fd.scope.kind = .function
 co:fd.scope.isCoroutine=false
 gen:fd.scope.isGenerator=false
 loc:(ls.all fun x=>fd.scope.names.lookup x==some .local)=true
 glob:(gs.all fun x=>fd.scope.names.lookup x==some .globalImplicit)=true
 nocell:(fd.scope.names.all fun x=>x.2 != .cell)=true
 par:(names.all fun x=>fd.scope.names.lookup x==some .local)=true
 nodup:names.Nodup
 cl:fd.closure=[]
 gl:fd.globals=mainGlobals
 bl:fd.builtins=builtinsNs
theorem Wk.pad (lv:List (Str×AV)) (rest:List Str):Wk lv (lv++rest.map fun x=>(x,.unk)):=fun x=>by
 rw[List.lookup_append]
 cases h:lv.lookup x with
 | some a=>right;rfl
 | none =>
  have:∀l:List Str,(l.map fun x=>(x,AV.unk)).lookup x=some AV.unk∨(l.map fun x=>(x,AV.unk)).lookup x=none:=fun l=>by
   induction l with
   | nil=>right;rfl
   | cons y l ih =>
    simp only[List.map_cons,List.lookup_cons]
    cases x==y with
    | true=>left;rfl
    | false=>exact ih
  rcases this rest with q | q<;>simp[q]
theorem Ex.wk (w:Wk lv lv₁) (x:Ex G F lv₁ σ body f lv' σ'):Ex G F lv σ body f lv' σ':=fun π s S Q E h=>x π s (S.wk w) Q E h
theorem yg (D:DefAt G a fd) (K:ScopeOk fd names ls gs) (R:Rm A (n+1)) (hb:fd.body = .stmts body)
  (hbind:∀vs:List Value,vs.length=names.length→bindArgs fd ⟨vs,[]⟩=pure (names.zip vs)) (hn:as.length=names.length) (hrest:ls=names++rest) (hlv:(names.zip as++rest.map fun x=>(x,.unk))=lv)
  (h:∀F:Fx,Sc F ls [] gs→Fm F→Rm F.A n→∃lv',Ex G F lv σ body f lv' σ'):Cl G A σ (.base a) as (dS f) σ':=by
 refine ww D R.room hb hbind hn K.nodup (fun x hx=>?_) (fun x hx=>?_) K.cl (fun L=>let ⟨lv',q⟩:=h _ ⟨K.kind,fun x hx=>?_,fun x hx=>?_,fun x hx=>?_,K.gl,K.bl⟩ ⟨⟨A,rfl⟩,⟨_,rfl⟩⟩ R.deeper;⟨lv',Ex.wk (hlv ▸ Wk.pad _ rest) q⟩) K.co K.gen K.kind
 ·have:=List.all_eq_true.mp K.nocell x hx;simpa using this
 ·have:=List.all_eq_true.mp K.par x hx;simpa using this
 ·have:=List.all_eq_true.mp K.loc x (by simpa using hx)
  show fd.scope.names.lookup x=_;simpa using this
 ·simp at hx
 ·have:=List.all_eq_true.mp K.glob x (by simpa using hx)
  show fd.scope.names.lookup x=_;simpa using this
def Al (G:Gd) (F:Fx) (lv:List (Str×AV)) (σ:List AO) (es:List Expr) (as:List AV) (lv':List (Str×AV)) (σ':List AO):Prop :=
 BD G F lv σ ((assignEach es F.env).map (·.2)) as lv' σ'
theorem yq:Al G F lv σ [] [] lv σ:=yp
theorem wH (x:As G F lv σ t a lv₁ σ₁) (y:Al G F lv₁ σ₁ es as lv₂ σ₂) (h:∀env,∃b,assignEach (t::es) env=(b,assign t env)::assignEach es env:=by intro _;exact⟨_,rfl⟩):Al G F lv σ (t::es) (a::as) lv₂ σ₂:=by
 (refine b8 (h F.env) fun b e=>?_)
 unfold Al;rw[e];exact wG x y
theorem wA (hi:jw G F.A σ a) (it:vA G F.A σ a xs ok) (hok:ok σ) (hn:es.length=xs.length)
  (y:Al G F lv σ es xs lv₁ σ₁) (hl:∀env,(assignEach es env).length=es.length:=by intro _;rfl) (hst:∀env,(assignEach es env).findIdx? (·.1)=none:=by intro _;rfl):As G F lv σ (.Tuple es k pos) a lv₁ σ₁:=wz hi it hok hn y hl hst
theorem am {l:List AO} (h:l[i]? = some o):i < l.length:=(List.getElem?_eq_some_iff.mp h).1
theorem cE {l m:List AO} (hn:l.length=n) (h:m[k]? = some o):(l++m)[n+k]? = some o:=by
 subst hn;rw[List.getElem?_append_right (Nat.le_add_right _ _),Nat.add_sub_cancel_left];exact h
theorem aj {l m:List AO} (hn:l.length=n) (h:m[0]? = some o):(l++m)[n]? = some o:=cE (k:=0) hn h
theorem mq {l m r:List AO} (hn:l.length=n) (e:m.set k a=r):(l++m).set (n+k) a=l++r:=by
 subst hn e;rw[List.set_append_right _ _ (Nat.le_add_right _ _),Nat.add_sub_cancel_left]
theorem kF {l m r:List AO} (hn:l.length=n) (e:m.set 0 a=r):(l++m).set n a=l++r:=mq (k:=0) hn e
theorem rY {l m r:List AO} (h:i < l.length) (e:l.set i a=r):(l++m).set i a=r++m:=by subst e;exact List.set_append_left _ _ h
theorem Wk.nil:Wk [] []:=fun _ => .inr rfl
theorem Wk.cons (w:Wk lv lv'):Wk ((x,a)::lv) ((x,a)::lv'):=fun y=>by
 simp only[List.lookup_cons]
 cases y==x with
 | true=>exact .inr rfl
 | false=>exact w y
theorem zD (x:Ev G F lv σ o ov σ₁) (m:Gm G F.A σ₁ ov name fv first) (y:tR G F lv σ₁ args as σ₂) (ha:first++as=al) (k:nZ G F.A σ₂ fv) (z:Cl G F.A σ₂ fv al r σ₃)
  (hb:∀env,attributeBase o name env (eval o env)=eval o env:=by intro _;rfl)
  (hfew:∀env,methodCallForm (args.length+([]:List Keyword).length) (backTo pos (starEach args env)) (backToKw pos (keywordEach [] env))=true:=by intro _;rfl)
  (hline:(apos.endLine==pos.line)=true:=by rfl)
  (hp:∀env,(backTo pos (starEach args env)).any (·.1)=false:=by intro _;rfl):Ev G F lv σ (.Call (.Attribute o name apos) args [] pos) r σ₃:=by subst ha;exact n9 x m y k z hb hfew hline hp
theorem bZ (h:n≤100000):n≤sizeLine:=Nat.le_trans h (by decide)
end
section
variable {G:Gd} {F:Fx} {A:Around} {lv lv' lv₁ lv₂:List (Str×AV)} {σ σ' σ₁ σ₂ σ₃:List AO} {π:PM} {s:Shared}
structure PCls (g:Heap) (C N:Addr) (bm:List Value):Prop where
 obj:∃nm q bs sn sub col dd k0 k1 k2 k3 k5 newId,g.get? C=some (excClassObj nm q C N bs bm true sn sub false col dd k0 k1 k2 k3 k5 newId)∧(bm=[.type "object"]→newId = "object.__new__")
 ns:g.Ns N (g.nsMap N)
theorem Rep.inst (R:Rep g π σ h) (hi:σ[i]? = some (.inst C fs)) :
  ∃m,h.Inst (π.a i) C m∧LvR π σ.length fs m∧∃o,h.get? (π.a i)=some o∧o.cls = .ref C∧(∀c,o.data ≠ .cls c)∧o.dict=some (π.d i)∧π.d i≠π.a i:=by
 (refine gk (R.at_ i _ hi) fun o m h1 h2 h3 h4 h5 h6 h7=>?_)
 exact⟨m,⟨o,h1,h2,h3,.inr ⟨_,h4,h5,h6⟩⟩,h7,o,h1,h2,h3,h4,h5⟩
noncomputable def d8:AV→Bool
 | .builtin _=>false
 | .unk=>false
 | _=>true
theorem mF (h:d8 a=true) (hv:VR π n a v):handedOut v=pure v:=by
 cases a with
 | builtin _=>cases h
 | unk=>exact hv.elim
 | none=>have e:v=_:=hv;subst e;rfl
 | bool _=>have e:v=_:=hv;subst e;rfl
 | int _=>(refine b8 hv fun t e=>?_;clear hv);subst e;rfl
 | str _=>(refine b8 hv fun t e=>?_;clear hv);subst e;rfl
 | bytes _=>(refine b8 hv fun t e=>?_;clear hv);subst e;rfl
 | type _=>have e:v=_:=hv;subst e;rfl
 | base _=>have e:v=_:=hv;subst e;rfl
 | dyn _=>(refine bD hv fun _ e=>?_;clear hv);subst e;rfl
theorem LvR.get (L:LvR π n lv m) (h:lv.lookup x=some a) (hu:a ≠ .unk):∃v,m x=some v∧VR π n a v:=by
 have:=L x;rw[h] at this;exact this hu
theorem LvR.none {n:Nat} {m:Str→Option Value} {x:Str} (L:LvR π n lv m) (h:lv.lookup x=none):m x=none:=by
 have:=L x;rw[h] at this;exact this
theorem ru (P:PCls G.g C N [.type "object"]) (hi:σ[i]? = some (.inst C fs)) (hv:fs.lookup name=some a) (hb:d8 a=true)
  (hng:G.g.nsMap N "__getattribute__" = none) (hna:G.g.nsMap N name=none) (hB:typeLookup (.type "object") name=pure none):wJ G A σ (fun o=>getAttr o name true) (.dyn i) a σ:=fun π s v S hv' Q E h=>by
 (refine bD hv' fun _ zz8=>?_;clear hv';subst zz8)
 (refine fX (S.rep.inst hi) fun m I L _=>?_)
 (refine aF (L.get hv (by rintro rfl;cases hb)) fun v h1 h2=>?_)
 (refine cu (P.obj) fun nm q bs sn sub col dd k0 k1 k2 k3 k5 nid hC _=>?_)
 (refine bD (S.toks (X:=cG) (s.toks+1)) fun C' W'=>?_)
 obtain⟨hp,g,d,t,os⟩:=s
 exact bn (load_attr (S.keepg _ _ hC) (P.ns.keeps S.keepg) hng hna hB I h1 (mF hb h2) (h π _ v C' W' h2))
theorem xI (P:PCls G.g C N [.type "object"]) (hi:σ[i]? = some (.inst C fs)) (hsh:fs.lookup name=none)
  (hng:G.g.nsMap N "__getattribute__" = none) (hnh:G.g.nsMap N "__getattr__" = none) (hf:G.g.nsMap N name=some (.ref f)) (hfo:∃o,G.g.get? f=some o∧o.cls = .type "function") (hB:typeLookup (.type "object") name=pure y) :
  Gm G A σ (.dyn i) name (.base f) [.dyn i]:=fun π s v S hv' pl Q E h=>by
 (refine bD hv' fun hlt zz28=>?_;clear hv';subst zz28)
 (refine fX (S.rep.inst hi) fun m I L _=>?_)
 (refine cu (P.obj) fun nm q bs sn sub col dd k0 k1 k2 k3 k5 nid hC _=>?_)
 (refine aF hfo fun of hfo hfc=>?_)
 have hh:=h s (.ref f) [.ref (π.a i)] S S.same rfl (.cons ⟨hlt,rfl⟩ .nil)
 obtain⟨hp,g,d,t,os⟩:=s
 exact bn (method_of (S.keepg _ _ hC) (P.ns.keeps S.keepg) hng hnh hf (S.keepg _ _ hfo) hfc hB I (L.none hsh) hh)
theorem mh (L:LvR π n lv m):Within m (lv.map (·.1)):=fun y hy=>by
 have:=L y
 cases hq:lv.lookup y with
 | none=>rw[hq] at this;exact absurd this hy
 | some a =>
  have mem:∀l:List (Str×AV),l.lookup y=some a→y∈l.map (·.1):=fun l=>by
   induction l with
   | nil=>intro h;simp at h
   | cons p l ih =>
    obtain⟨z,b⟩:=p
    intro h
    rw[List.lookup_cons] at h
    by_cases e:y=z
    ·subst e;simp
    ·rw[show (y==z)=false from beq_eq_false_iff_ne.mpr e] at h
     simp only[List.map_cons,List.mem_cons];exact .inr (ih h)
  exact mem _ hq
theorem LvR.put {n:Nat} {m:Str→Option Value} {x:Str} {a:AV} {v:Value} (L:LvR π n lv m) (h:VR π n a v):LvR π n (put x a lv) (fun y=>if y=x then some v else m y):=fun y=>by
 rw[ge]
 by_cases hy:y=x
 ·rw[if_pos hy];exact fun _=>⟨v,if_pos hy,h⟩
 ·rw[if_neg hy]
  have:=L y
  cases hq:lv.lookup y with
  | none=>rw[hq] at this;exact(if_neg hy).trans this
  | some b=>rw[hq] at this;exact fun hu=>let ⟨u,k1,k2⟩:=this hu;⟨u,(if_neg hy).trans k1,k2⟩
theorem rG (P:PCls G.g C N [.type "object"]) (hi:σ[i]? = some (.inst C fs)) (hp:put name a fs=fs') (hs:σ.set i (.inst C fs')=σ')
  (hns:G.g.nsMap N "__setattr__" = none) (hna:G.g.nsMap N name=none) (hB:typeLookup (.type "object") name=pure none) (hn:fs.length+1≤sizeLine):tC G A σ (fun o _ v=>setAttr o name v) (.dyn i) .none a σ':=fun π s v u x S hv hu hx Q E h=>by
 subst hp hs
 (refine bD hv fun hlt zz48=>?_;clear hv;subst zz48)
 (refine qh (S.rep.inst hi) fun m I L o ho hoc hod hdi hne=>?_)
 (refine cu (P.obj) fun nm q bs sn sub col dd k0 k1 k2 k3 k5 nid hC _=>?_)
 have hxC:π.a i≠C:=fun e=>by
  have:=S.rep.new i _ (π.a i) hi (by simp[own])
  rw[e,hC] at this;cases this
 obtain⟨hp,g,d,t,os⟩:=s
 refine bn (store_attr (ns:=fs.map (·.1)) F.store_object (S.keepg _ _ hC) (P.ns.keeps S.keepg) hns hna hB hxC I (fun h' tk' I' hk ho'=>?_) (mh L) (by simpa using Nat.le_of_succ_le hn))
 (refine bW (ho' o ho) fun o₁ k1 k2 k3 k4 k5=>?_)
 (refine fc I' fun oi i1 i2 i3 i4=>?_;clear I')
 have e1:oi=o₁:=Option.some.inj (i1.symm.trans k1)
 subst e1
 have hd1:oi.dict=some (π.d i):=k5 _ hdi
 have hns1:h'.Ns1 (π.d i) (fun y=>if y=name then some x else m y):=by
  rcases i4 with⟨q,_⟩ | ⟨dq,q1,_,q3⟩
  ·rw[hd1] at q;cases q
  ·rw[hd1] at q1;cases q1;exact q3
 obtain⟨C',W'⟩:=S.update (X:=cG) (s':=⟨h',g,d,tk',os⟩) (o' := .inst C (put name a fs)) hi rfl (fun b ob hb e=>hk b ob (fun q=>hb (by rw[q];simp[own])) (fun o₀ dx e1 e2 q=>hb (by
   have:o=o₀:=Option.some.inj (ho.symm.trans e1)
   subst this
   rw[hdi] at e2;cases e2
   rw[q];simp[own])) e) ⟨oi,_,i1,i2,i3,hd1,hne,hns1,L.put hx⟩ rfl rfl
 exact h π _ C' W'
theorem StC.reA (S:StC g A σ π s) (e:A'.frames=A.frames):StC g A' σ π s:=⟨S.keepg,S.rep,let ⟨fs,h1,h2⟩:=S.frs;⟨fs,e.trans h1,h2⟩⟩
theorem zf (e:A'.frames=A.frames):frs A'=frs A:=by unfold frs;rw[e]
theorem Fwd.reA (W:Fwd A X σ π s σ' π' s') (e:A'.frames=A.frames):Fwd A' X σ π s σ' π' s' :=
 ⟨W.ext,W.len,fun b o h1 h2 h3=>by rw[zf e];exact W.kept b o h1 h2 h3,W.fresh,W.stay,W.os,W.gens⟩
theorem Rm.in1 (x:Rm A (n+1)):Rm A.in1 n:=⟨by have:=x.depth;show A.depth+4*n≤900;exact lU this,by have:=x.units;show A.units+1+40*n≤9000;exact lU this,x.handled⟩
noncomputable def inNew (A:Around):Around:={ A with depth:=A.depth+1,units:=A.units+1 }
theorem jC:A.under (Code.builtin "type.__call__" ⟨Value.ref C::vs,[]⟩)=inNew A:=by kernel_rfl
theorem Rm.inNew {n:Nat} (x:Rm A (n+1)):Rm (inNew A) n:=⟨by have:=x.depth;show A.depth+1+4*n≤900;exact lU this,by have:=x.units;show A.units+1+40*n≤9000;exact lU this,x.handled⟩
theorem zW (P:PCls G.g C N [.type "object"]) (hi:G.g.nsMap N "__init__" = some (.ref fI)) (hfo:∃o,G.g.get? fI=some o∧o.cls = .type "function")
  (z:Cl G (inNew A) (σ++[.inst C []]) (.base fI) (.dyn σ.length::as) .none σ'):Cl G A σ (.base C) as (.dyn σ.length) σ':=fun π s fv vs S hf hv Q E h=>by
 subst hf
 (refine cu (P.obj) fun nm q bs sn sub col dd k0 k1 k2 k3 k5 nid hC hnid=>?_)
 (refine aF hfo fun of hfo hfc=>?_)
 cases hnid rfl
 obtain⟨hp,g,d,t,os⟩:=s
 refine i6 F.objNew (S.keepg _ _ hC) (P.ns.keeps S.keepg) hi (S.keepg _ _ hfo) hfc fun h' x dx hm=>?_
 rw[jC]
 (refine fc (id hm.inst) fun ox o1 o2 o3 o4=>?_)
 obtain⟨π',C',W',e1,e2⟩:=S.alloc (X:=cG) (s':=⟨h',g,d,t,os⟩) (ao := .inst C []) x dx hm.keeps hm.newX hm.newD (fun π' e e1 e2=>by
  rcases o4 with⟨q,_⟩ | ⟨dq,q1,q2,q3⟩
  ·rw[hm.dict _ o1] at q;cases q
  ·have:dq=dx:=by rw[hm.dict _ o1] at q1;exact(Option.some.inj q1).symm
   subst this
   exact⟨ox,_,by rw[e1];exact o1,o2,o3,by rw[e2];exact q1,by rw[e1,e2];exact q2,by rw[e2];exact q3,fun x=>rfl⟩) rfl rfl
 refine z π' _ _ _ (C'.reA rfl) rfl (.cons ⟨by simp,by rw[e1]⟩ (hv.mono W'.ext W'.len)) _ E fun π₂ s₂ v₂ C₂ W₂ R₂=>?_
 have hlen:σ.length < (σ++[AO.inst C []]).length:=by simp
 refine⟨R₂,h π₂ s₂ _ (C₂.reA rfl) (W'.transN (W₂.reA rfl)) ⟨Nat.lt_of_lt_of_le hlen W₂.len,?_⟩⟩
 rw[W₂.ext.a _ hlen,e1]
end
section
variable {G:Gd} {F:Fx} {A:Around} {lv lv' lv₁ lv₂:List (Str×AV)} {σ σ' σ₁ σ₂ σ₃:List AO} {π:PM} {s:Shared}
noncomputable abbrev mM:List Value:=[.type "Exception",.type "BaseException",.type "object"]
structure ECls (g:Heap) (C N:Addr):Prop where
 obj:∃nm q bs sn sub col dd k0 k1 k2 k3 k5,g.get? C=some (excClassObj nm q C N bs mM true sn sub false col dd k0 k1 k2 k3 k5 "Exception.__new__")
 ns:g.Ns N (g.nsMap N)
theorem mn {α:Type} {l:List α} {a:α} (h:l[i]? = some a):l.set i a=l:=by
 (refine b8 (List.getElem?_eq_some_iff.mp h) fun h1 h2=>?_)
 subst h2;simp
theorem qU (P:ECls G.g C N) (hi:σ[i]? = some (.exc0 C)):Cl G A σ (.builtin "Exception.__init__") [.dyn i,a] .none σ:=fun π s fv vs S hf hv Q E h=>by
 subst hf
 cases hv with
 | cons hx hr =>
  cases hr with
  | cons hy hr =>
   cases hr
   rename_i vx vy
   (refine bD hx fun hlt zz1=>?_;clear hx;subst zz1)
   (refine b8 (S.rep.at_ i _ hi) fun x0 ho=>?_)
   (refine cx (P.obj) fun nm q bs sn sub col dd k0 k1 k2 k3 k5 hC=>?_)
   have hC':=S.keepg _ _ hC
   obtain⟨hp,g,d,t,os⟩:=s
   refine bn (wpAny_call (codeAny_call_builtin F.excBase_Exception.init.plain F.excBase_Exception.initEntry (wpAny_check_init_sub F.excBase_Exception hC' ho rfl ?_)))
   wp_walk
   refine(S.update (X:=cG) (s':=⟨(hp.push { cls := .type "tuple",data := .seq #[vy] }).update (π.a i) (Obj.mapFields fun x=>x.setIfInBounds 0 (.ref hp.objs.size)),g,d,t,os⟩) (o' := .exc0 C) hi rfl (fun b ob hb e=>?_) ⟨hp.objs.size,?_⟩ rfl rfl).elim fun C' W'=>?_
   ·rw[Heap.get?_update_other _ _ (fun q=>hb (by rw[← q];simp[own]))]
    exact Heap.get?_push_of_some _ e
   ·rw[Heap.get?_update_self _ (Heap.get?_push_of_some _ ho) rfl]
    rfl
   ·rw[mn hi] at C' W'
    exact h π _ _ C' W' rfl
section
open Builtin Builtin.ObjectAttr
variable {prog:Program} {w:World} {E:Value→Shared→Prop} {h:Heap} {g:Array GenState} {d:Drawn} {t:Nat} {os:OsState}
variable {nm q:Str} {C N x:Addr} {bs bm:List Value} {sn:List Str} {sub:List Value} {ab:Bool} {col:Option Bool} {dd:Option Addr} {k0 k1 k2 k3 k5:Option Value} {B newId sa owner:String}
 {mN:Str→Option Value} {name:Str} {v:Value} {o:Obj}
theorem oY (SF:StoreFacts B bm sa owner)
  (hC:h.get? C=some (excClassObj nm q C N bs bm true sn sub ab col dd k0 k1 k2 k3 k5 newId)) (hn:h.Ns N mN) (hna:mN name=none) (hB:typeLookup (.type B) name=pure none)
  (hx:h.get? x=some o) (hc:o.cls = .ref C) (hnc:∀c,o.data ≠ .cls c) (hdn:o.dict=none)
  (hq:∀h' tk',h'.get? x=some { o with dict:=some h.objs.size }→h'.Ns1 h.objs.size (fun y=>if y=name then some v else none)→(∀b ob,b≠x→h.get? b=some ob→h'.get? b=some ob)→Q (.done (.ret .none)) ⟨h',g,d,tk',os⟩) :
  wpAny (model prog w) A (Builtin.«object.__setattr__» ⟨[.ref x,.str name tk,v],[]⟩) Q E ⟨h,g,d,t,os⟩:=by
 have hpass:=SF.passes (.ref x)
 unfold Builtin.«object.__setattr__»
 repeat (first | rw[refuse_eq] | (rw[refuseLoop_ref,hpass]) | (with_reducible refine wpAny_loadPart_at hx ?_;rw[hc]) | with_reducible refine wpAny_mroOf_exc hC ?_ | (with_reducible refine wpAny_typeLookup_exc hC hn SF.mro hB ?_;rw[hna]) | wp_step)
 rw[hdn,if_neg (by simp[typeHasDict])]
 split
 ·rename_i hcd;cases hcd
 split
 ·rename_i c hcd;exact absurd hcd (hnc c)
 have hxs:x≠h.objs.size:=Nat.ne_of_lt (Heap.lt_size hx)
 have hx₁:=Heap.get?_push_of_some { cls := .type "dict",data := .dict #[] } hx
 refine wpAny_bind (wpAny_alloc' (wpAny_bind (wpAny_update' hx₁ (wpAny_pure ?_))))
 show wpAny _ _ (storeInDict h.objs.size (.str name tk) name v) _ _ _
 unfold storeInDict newKeyGuard
 have hgd:((h.push { cls := .type "dict",data := .dict #[] }).update x fun o=>{ cls:=o.cls,dict:=some h.objs.size,data:=o.data,slots:=o.slots }).get? h.objs.size=some { cls := .type "dict",data := .dict #[] } :=
  (Heap.get?_update_ne _ _ _ _ hxs.symm).trans (Heap.get?_push_at rfl rfl)
 refine wpAny_bind (wpAny_pure (wpAny_bind (wpAny_nsSet1 (Heap.Ns1.of_empty ⟨_,#[],_,hgd,rfl,fun e he=>absurd he (by simp),fun _=>rfl⟩) fun h' hn' hs=>?_)))
 (refine cQ (hn'.count (Within.cons name v Within.nil)) fun oD esD epD hoD hdD hcD=>?_)
 refine wpAny_bind (wpAny_lookBehind hoD (by rw[hdD];exact pastItsLine_dict (Nat.le_trans hcD (by rw[List.length_cons,List.length_nil,sizeLine_eq];exact Nat.succ_pos _))) ?_)
 wp_walk
 refine hq h' _ ?_ hn' fun b ob hbx hb=>?_
 ·refine(hs.2 x hxs).trans (Heap.get?_update_self _ hx₁ ?_)
  have hfr:=(Heap.get?_some_iff.mp hx).2
  obtain⟨oc,od,odt,osl⟩:=o
  cases odt<;>first | rfl | exact hfr
 ·exact(hs.2 b (Nat.ne_of_lt (Heap.lt_size hb))).trans ((Heap.get?_update_ne _ _ _ _ hbx).trans (Heap.get?_push_of_some _ hb))
theorem qd (SF:StoreFacts B bm sa owner)
  (hC:h.get? C=some (excClassObj nm q C N bs bm true sn sub ab col dd k0 k1 k2 k3 k5 newId)) (hn:h.Ns N mN) (hns:mN "__setattr__" = none) (hna:mN name=none) (hB:typeLookup (.type B) name=pure none)
  (hx:h.get? x=some o) (hc:o.cls = .ref C) (hnc:∀c,o.data ≠ .cls c) (hdn:o.dict=none)
  (hq:∀h' tk',h'.get? x=some { o with dict:=some h.objs.size }→h'.Ns1 h.objs.size (fun y=>if y=name then some v else none)→(∀b ob,b≠x→h.get? b=some ob→h'.get? b=some ob)→Q () ⟨h',g,d,tk',os⟩) :
  wpAny (model prog w) A (setAttr (.ref x) name v) Q E ⟨h,g,d,t,os⟩:=by
 have f3:=SF.slot.bind (.ref x)
 unfold setAttr callSpecial? specialOf
 repeat (any_goals (first | assumption | (with_reducible refine wpAny_loadPart_at hx ?_;rw[hc]) | (with_reducible refine wpAny_typeLookup_exc hC hn SF.mro SF.slot.lookup ?_;rw[hns]) | wp_step))
 refine codeAny_call_builtin SF.slot.plain SF.entry (wpAny_check_sa SF hC hx hc (oY SF hC hn hna hB hx hc hnc hdn fun h' tk' a b c=>?_))
 repeat (any_goals (first | assumption | wp_step))
 exact hq h' tk' a b c
end
theorem yd (P:ECls G.g C N) (hi:σ[i]? = some (.exc0 C)) (hs:σ.set i (.exc C σ.length true)++[.ns [(name,a)]]=σ')
  (hns:G.g.nsMap N "__setattr__" = none) (hna:G.g.nsMap N name=none) (hB:typeLookup (.type "Exception") name=pure none):tC G A σ (fun o _ v=>setAttr o name v) (.dyn i) .none a σ':=fun π s v u x S hv hu hx Q E h=>by
 subst hs
 (refine bD hv fun hlt zz22=>?_;clear hv;subst zz22)
 (refine cx (P.obj) fun nm q bs sn sub col dd k0 k1 k2 k3 k5 hC=>?_)
 (refine b8 (S.rep.at_ i _ hi) fun x0 ho=>?_)
 obtain⟨hp,g,d,t,os⟩:=s
 refine bn (qd F.store_Exception (S.keepg _ _ hC) (P.ns.keeps S.keepg) hns hna hB ho rfl (fun c=>by simp) rfl fun h' tk' h1 h2 h3=>?_)
 (refine cM h2 fun od es ep k1 k2=>?_;clear h2)
 obtain⟨π',C',W',e1,_⟩:=S.alloc (X:=cG) (s':=⟨hp.push od,g,d,tk',os⟩) (ao := .ns [(name,a)]) hp.objs.size hp.objs.size bw (aC _) (aC _)
  (fun π' e e1 e2=>⟨_,⟨od,es,ep,by rw[e1];exact Heap.get?_push_at rfl (Heap.get?_some_iff.mp k1).2,k2⟩,fun y=>by
   simp only[List.lookup_cons,List.lookup_nil]
   by_cases hy:y=name
   ·subst hy;simp only[beq_self_eq_true];exact fun _=>⟨x,by simp,hx.mono e (Nat.le_succ _)⟩
   ·rw[show (y==name)=false from beq_eq_false_iff_ne.mpr hy];exact if_neg hy⟩) rfl rfl
 have ea:π'.a i=π.a i:=W'.ext.a i hlt
 have hi':(σ++[AO.ns [(name,a)]])[i]? = some (.exc0 C):=ad hi
 obtain⟨C₂,W₂⟩:=C'.update (X:=cG) (s':=⟨h',g,d,tk',os⟩) (o' := .exc C σ.length true) hi' rfl (fun b ob hb e=>by
  by_cases hbs:b=hp.objs.size
  ·subst hbs
   have:=Heap.get?_push_at (h:=hp) (o:=od) rfl (Heap.get?_some_iff.mp k1).2
   rw[this] at e;cases e;exact k1
  ·have hbx:b≠π.a i:=fun q=>hb (by rw[q];simp[own,ea])
   refine h3 b ob hbx ?_
   have:=Heap.get?_push_ne hp b od hbs
   rw[← this];exact e) ⟨_,#[.ref x0,.none,.none,.none,.bool false,.none],.none,by rw[ea];exact h1,rfl,by rw[e1],by simp,rfl,rfl,fun _=>rfl⟩ rfl rfl
 have es:(σ++[AO.ns [(name,a)]]).set i (.exc C σ.length true)=σ.set i (.exc C σ.length true)++[.ns [(name,a)]]:=List.set_append_left _ _ hlt
 rw[es] at C₂ W₂
 exact h π' _ C₂ (W'.transN W₂)
theorem zN (P:ECls G.g C N) (hi:σ[i]? = some (.exc C j b)) (hj:σ[j]? = some (.ns fs)) (hp:put name a fs=fs') (hs:σ.set j (.ns fs')=σ')
  (hns:G.g.nsMap N "__setattr__" = none) (hna:G.g.nsMap N name=none) (hB:typeLookup (.type "Exception") name=pure none) (hn:fs.length≤1000):tC G A σ (fun o _ v=>setAttr o name v) (.dyn i) .none a σ':=fun π s v u x S hv hu hx Q E h=>by
 subst hp hs
 (refine bD hv fun hlt zz40=>?_;clear hv;subst zz40)
 (refine cx (P.obj) fun nm q bs sn sub col dd k0 k1 k2 k3 k5 hC=>?_)
 (refine cP (S.rep.at_ i _ hi) fun o vs y ho hc hod hjlt hdat h1 hnew=>?_)
 (refine aF (S.rep.at_ j _ hj) fun m hm L=>?_)
 have hne:π.a j≠π.a i:=fun e=>by
  have:j=i:=S.rep.sep j i _ _ (π.a i) hj hi (by simp[own,e]) (by simp[own])
  subst this;rw[hi] at hj;cases hj
 have hxC:π.a i≠C:=fun e=>by
  have:=S.rep.new i _ (π.a i) hi (by simp[own])
  rw[e,hC] at this;cases this
 obtain⟨hp,g,d,t,os⟩:=s
 refine bn (store_attr (ns:=fs.map (·.1)) F.store_Exception (S.keepg _ _ hC) (P.ns.keeps S.keepg) hns hna hB hxC ⟨o,ho,hc,fun c=>by rw[hdat];simp,.inr ⟨_,hod,hne,hm⟩⟩ (fun h' tk' I' hk ho'=>?_) (mh L) (by simpa using Nat.le_trans hn (by decide)))
 (refine bW (ho' o ho) fun o₁ k1 k2 k3 k4 k5=>?_)
 (refine fc I' fun oi i1 i2 i3 i4=>?_;clear I')
 have e1:oi=o₁:=Option.some.inj (i1.symm.trans k1)
 subst e1
 have hd1:oi.dict=some (π.a j):=k5 _ hod
 have eo:oi=o:=by
  obtain⟨a1,a2,a3,a4⟩:=oi
  obtain⟨b1,b2,b3,b4⟩:=o
  simp only at k2 k3 k4 hd1 hod
  rw[k2,k3,k4,hd1,hod]
 subst eo
 have hns1:h'.Ns1 (π.a j) (fun y=>if y=name then some x else m y):=by
  rcases i4 with⟨q,_⟩ | ⟨dq,q1,_,q3⟩
  ·rw[hd1] at q;cases q
  ·rw[hd1] at q1;cases q1;exact q3
 obtain⟨C',W'⟩:=S.update (X:=cG) (s':=⟨h',g,d,tk',os⟩) (o' := .ns (put name a fs)) hj rfl (fun b ob hb e=>by
  by_cases hbi:b=π.a i
  ·subst hbi
   have:oi=ob:=Option.some.inj (ho.symm.trans e)
   subst this;exact k1
  ·exact hk b ob hbi (fun o₀ dx e1 e2 q=>hb (by
    have:oi=o₀:=Option.some.inj (ho.symm.trans e1)
    subst this
    rw[hod] at e2;cases e2
    rw[q];simp[own])) e) ⟨_,hns1,L.put hx⟩ rfl rfl
 exact h π _ C' W'
end
section
variable {G:Gd} {F:Fx} {A:Around} {lv lv' lv₁ lv₂:List (Str×AV)} {σ σ' σ₁ σ₂ σ₃:List AO} {π:PM} {s:Shared}
section
open Builtin Builtin.ObjectAttr
variable {prog:Program} {w:World} {E:Value→Shared→Prop} {h:Heap} {g:Array GenState} {d:Drawn} {t:Nat} {os:OsState}
variable {nm q:Str} {C N x dx:Addr} {bs:List Value} {sn:List Str} {sub:List Value} {ab:Bool} {col:Option Bool} {dd:Option Addr} {k0 k1 k2 k3 k5:Option Value} {newId:String}
 {mN mA:Str→Option Value} {name:Str} {v:Value} {o:Obj}
theorem sB (hC:h.get? C=some (excClassObj nm q C N bs mM true sn sub ab col dd k0 k1 k2 k3 k5 newId)) (hn:h.Ns N mN) (hna:mN name=none)
  (hB:typeLookup (.type "Exception") name=pure none) (hx:h.get? x=some o) (hc:o.cls = .ref C) (hnc:∀c,o.data ≠ .cls c) (hd:o.dict=some dx) (hns:h.Ns1 dx mA) (hv:mA name=some v) (hq:Q (.done (.ret v)) ⟨h,g,d,t,os⟩) :
  wpAny (model prog w) A (Builtin.«object.__getattribute__» ⟨[.ref x,.str name tk],[]⟩) Q E ⟨h,g,d,t,os⟩:=by
 have hm:mroOf (.type "Exception")=pure mM:=F.excBase_Exception.mroIs
 unfold Builtin.«object.__getattribute__»
 repeat (first | (with_reducible refine wpAny_loadPart_at hx ?_;rw[hc]) | (with_reducible refine wpAny_typeLookup_exc hC hn hm hB ?_;rw[hna]) | wp_step)
 split
 ·rename_i c hcd;exact absurd hcd (hnc c)
 unfold instanceDict
 repeat (first | (with_reducible refine wpAny_loadPart_at hx ?_;rw[hc]) | with_reducible refine wpAny_loadPart_at hC ?_ | wp_step)
 rw[hd]
 repeat (first | (with_reducible refine wpAny_nsGet hns.ns ?_;rw[hv]) | wp_step)
 exact hq
theorem uR (hC:h.get? C=some (excClassObj nm q C N bs mM true sn sub ab col dd k0 k1 k2 k3 k5 newId)) (hn:h.Ns N mN) (hng:mN "__getattribute__" = none) (hnh:mN "__getattr__" = none) (hna:mN name=none)
  (hB:typeLookup (.type "Exception") name=pure none) (hx:h.get? x=some o) (hc:o.cls = .ref C) (hnc:∀c,o.data ≠ .cls c) (hd:o.dict=some dx) (hns:h.Ns1 dx mA) (hv:mA name=some v) (hh:handedOut v=pure v) (hq:Q v ⟨h,g,d,t+1,os⟩) :
  wpAny (model prog w) A (getAttr (.ref x) name expr) Q E ⟨h,g,d,t,os⟩:=by
 have hm:mroOf (.type "Exception")=pure mM:=F.excBase_Exception.mroIs
 have FA:=F.attrBase_Exception
 have f3:=FA.ga.bind (.ref x)
 have hx0:(expr && onTheHeap (Value.builtin "BaseException.__getattribute__"))=false:=by cases expr<;>rfl
 have hx2:(Value.builtin "BaseException.__getattribute__" == Value.builtin "object.__getattribute__")=false:=by decide +kernel
 have hx1:(onTheHeap (Value.ref C) && Value.builtin "BaseException.__getattribute__" == Value.builtin "object.__getattribute__")=false:=by rw[hx2];rfl
 unfold getAttr
 refine wpAny_bind (wpAny_mkText ?_)
 repeat (any_goals (first | assumption | (with_reducible refine wpAny_loadPart_at hx ?_;rw[hc]) | (with_reducible refine wpAny_typeLookup_exc hC hn hm FA.ga.lookup ?_;rw[hng]) | (with_reducible refine wpAny_typeLookup_exc hC hn hm FA.noGetattr ?_;rw[hnh]) | wp_step))
 show codeAny (model prog w) A (.call (.builtin "BaseException.__getattribute__") ⟨[.ref x,.str name t],[]⟩) _ ⟨h,g,d,t+1,os⟩
 refine codeAny_call_builtin FA.ga.plain F.entry_bexc_ga (wpAny_check_ga_own FA hC .base hx hc (sB hC hn hna hB hx hc hnc hd hns hv ?_))
 show wpAny _ _ (handedOut v) _ _ _
 rw[hh]
 exact wpAny_pure hq
end
theorem lx (P:ECls G.g C N) (hi:σ[i]? = some (.exc C j b)) (hj:σ[j]? = some (.ns fs)) (hv:fs.lookup name=some a) (hb:d8 a=true)
  (hng:G.g.nsMap N "__getattribute__" = none) (hnh:G.g.nsMap N "__getattr__" = none) (hna:G.g.nsMap N name=none) (hB:typeLookup (.type "Exception") name=pure none):wJ G A σ (fun o=>getAttr o name true) (.dyn i) a σ:=fun π s v S hv' Q E h=>by
 (refine bD hv' fun _ zz1=>?_;clear hv';subst zz1)
 (refine cP (S.rep.at_ i _ hi) fun o vs y ho hc hod hjlt hdat h1 hnew=>?_)
 (refine aF (S.rep.at_ j _ hj) fun m hm L=>?_)
 (refine aF (L.get hv (by rintro rfl;cases hb)) fun v h1 h2=>?_)
 (refine cx (P.obj) fun nm q bs sn sub col dd k0 k1 k2 k3 k5 hC=>?_)
 (refine bD (S.toks (X:=cG) (s.toks+1)) fun C' W'=>?_)
 obtain⟨hp,g,d,t,os⟩:=s
 exact bn (uR (S.keepg _ _ hC) (P.ns.keeps S.keepg) hng hnh hna hB ho hc (fun c=>by rw[hdat];simp) hod hm h1 (mF hb h2) (h π _ v C' W' h2))
theorem tK (P:ECls G.g C N) (hi:G.g.nsMap N "__init__" = some (.ref fI)) (hfo:∃o,G.g.get? fI=some o∧o.cls = .type "function") (hn:as.length≤sizeLine)
  (z:Cl G (inNew A) (σ++[.exc0 C]) (.base fI) (.dyn σ.length::as) .none σ'):Cl G A σ (.base C) as (.dyn σ.length) σ':=fun π s fv vs S hf hv Q E h=>by
 subst hf
 (refine cx (P.obj) fun nm q bs sn sub col dd k0 k1 k2 k3 k5 hC=>?_)
 (refine aF hfo fun of hfo hfc=>?_)
 obtain⟨hp,g,d,t,os⟩:=s
 refine m6 (hrest:=by rw[← hv.length];exact hn) F.excBase_Exception (S.keepg _ _ hC) (P.ns.keeps S.keepg) hi (S.keepg _ _ hfo) hfc fun h' e hm=>?_
 rw[jC]
 (refine fX (hm.there) fun t0 ht _ _=>?_)
 (refine fc (S.alloc (X:=cG) (s':=⟨h',g,d,t,os⟩) (ao := .exc0 C) e e hm.keeps hm.new hm.new (fun π' e e1 e2=>⟨t0,by rw[e1];exact ht⟩) rfl rfl) fun π' C' W' e1 e2=>?_)
 refine z π' _ _ _ (C'.reA rfl) rfl (.cons ⟨by simp,by rw[e1]⟩ (hv.mono W'.ext W'.len)) _ E fun π₂ s₂ v₂ C₂ W₂ R₂=>?_
 have hlen:σ.length < (σ++[AO.exc0 C]).length:=by simp
 refine⟨R₂,h π₂ s₂ _ (C₂.reA rfl) (W'.transN (W₂.reA rfl)) ⟨Nat.lt_of_lt_of_le hlen W₂.len,?_⟩⟩
 rw[W₂.ext.a _ hlen,e1]
end
section
variable {G:Gd} {F:Fx} {A:Around} {lv lv' lv₁ lv₂:List (Str×AV)} {σ σ' σ₁ σ₂ σ₃:List AO} {π π':PM} {s s':Shared}
noncomputable def CR (l:List Env):List Addr:=l.filterMap (·.frame)
theorem ew (h:A.frames=some l):frs A=CR l:=by unfold frs;rw[h];rfl
theorem FrsOk.fun:∀ {fs:List Env},FrsOk g π σ h fs→h.FunFrames g fs
 | [],_=>trivial
 | f::fs,x=>by
  (refine df (x f (List.mem_cons_self ..)) fun k L o a b c d _=>?_)
  exact⟨k,⟨L,o,a,d,b,c⟩,FrsOk.fun fun f' hf'=>x f' (List.mem_cons_of_mem _ hf')⟩
def KeepBut (l:List Addr) (X:Addr→Prop) (h h':Heap):Prop:=∀b o,¬X b→h.get? b=some o→(b ∉ l→h'.get? b=some o)∧∃sl,h'.get? b=some { o with slots:=sl }
theorem KeepBut.trans (x:KeepBut l X h₁ h₂) (y:KeepBut l Y h₂ h₃) (hX:∀b,X b→Z b) (hY:∀b o,h₁.get? b=some o→Y b→Z b):KeepBut l Z h₁ h₃:=fun b o hb e=>by
 (refine hZ (x b o (fun q=>hb (hX b q)) e) fun a1 sl a2=>?_)
 have nY:¬Y b:=fun q=>hb (hY b o e q)
 (refine hZ (y b _ nY a2) fun _ sl' b2=>?_)
 exact⟨fun hl=>(y b o nY (a1 hl)).1 hl,sl',b2⟩
section
variable {M:Model} {E:Value→Shared→Prop} {base:Heap} {env:Env} {outer:List Env} {L e:Addr} {oe:Obj} {vs:Array Value} {head:Value} {hadNext:Bool} {Q:Unit→Shared→Prop}
theorem mO (hfr:A.frames=some (env::outer)) (hl:s.heap.FunFrames base (env::outer)) (hf:env.frame=some L) (he:s.heap.get? e=some oe) (hd:oe.data = .fields vs) (hsz:1 < vs.size)
  (h:∀h' T,s.heap.get? T=none→h'.get? e=some (Obj.mapFields (·.setIfInBounds 1 (.ref T)) oe)→(∃oT ts,h'.get? T=some oT∧oT.data = .fields ts∧ts[3]? = some (rawInt L))→KeepBut (CR (env::outer)) (·=e) s.heap h'→Q () { s with heap:=h' }) :
  wpAny M A (do let a←frameOf env;let pl←entryPlaceOf L hadNext;let b←EntryCells.newEntry head a .none (rawInt L) .none pl;setField (.ref e) 1 b) Q E s:=by
 have hene:e ∉ (env::outer).filterMap (·.frame):=fun hm=>by
  (refine o9 (hl.mem hm) fun _ o ho hnf=>?_)
  rw[he] at ho;cases ho;exact hnf vs hd
 refine wpAny_bind (wpAny_frameOf_fun hfr hl hf fun h₁ hs₁=>wpAny_bind (wpAny_entryPlaceOf fun pl hpl=>?_))
 unfold EntryCells.newEntry newFields
 refine wpAny_bind (wpAny_newObj_type ?_ (hpl.sizeOk5 _ _ _ _ _))
 have he₁:h₁.get? e=some oe:=(hs₁.2.1 e hene).trans he
 have hTe:h₁.objs.size≠e:=Nat.ne_of_gt (Heap.lt_size he₁)
 refine wpAny_setField (Heap.get?_push_of_some _ he₁) hd hsz (h _ h₁.objs.size ?_ ?_ ?_ fun b o hb hbo=>?_)
 ·cases q:s.heap.get? h₁.objs.size with
  | none=>rfl
  | some o =>
   (refine b8 (hs₁.2.2 _ o q) fun _ q'=>?_)
   exact absurd (Heap.lt_size q') (Nat.lt_irrefl _)
 ·exact Heap.get?_update_self _ (Heap.get?_push_of_some _ he₁) (Obj.isFreed_of_fields (Obj.data_mapFields hd _))
 ·refine⟨_,_,(Heap.get?_update_other _ _ (Ne.symm hTe)).trans (Heap.get?_push_size h₁ rfl),rfl,?_⟩
  first | (simp;done) | (rcases hpl with rfl | ⟨_,_,_,_,_,_,_,rfl⟩<;>simp)
 ·have up:∀ob,h₁.get? b=some ob→((h₁.push { cls := .type "traceback",dict:=none,data := .fields ([head,.ref L,.none,rawInt L,.none]++(if pl.isEmpty then List.replicate 6 Value.none else pl)).toArray }).update e (Obj.mapFields (·.setIfInBounds 1 (Value.ref h₁.objs.size)))).get? b=some ob:=fun ob q=>by
   rw[Heap.get?_update_other _ _ (Ne.symm hb)];exact Heap.get?_push_of_some _ q
  (refine b8 (hs₁.2.2 b o hbo) fun sl hs=>?_)
  exact⟨fun hbl=>up _ ((hs₁.2.1 b hbl).trans hbo),sl,up _ hs⟩
def C0 (h:Heap) (e:Addr) (vs:Array Value) (fl:Value→Prop):Prop :=
 vs[1]? = some .none∨∃T oT ts f,vs[1]? = some (.ref T)∧T≠e∧h.get? T=some oT∧oT.data = .fields ts∧ts[3]? = some f∧fl f
theorem iI (hfr:A.frames=some (env::outer)) (hl:s.heap.FunFrames base (env::outer)) (hf:env.frame=some L) (he:s.heap.get? e=some oe) (hd:oe.data = .fields vs) (ht:C0 s.heap e vs (fun f=>(f==rawInt L)=false))
  (h:∀h' T,s.heap.get? T=none→h'.get? e=some (Obj.mapFields (·.setIfInBounds 1 (.ref T)) oe)→(∃oT ts,h'.get? T=some oT∧oT.data = .fields ts∧ts[3]? = some (rawInt L))→KeepBut (CR (env::outer)) (fun b=>b=e∨vs[1]? = some (.ref b)) s.heap h'→Q () { s with heap:=h' }) :
  wpAny M A (noteFrame (.ref e) env) Q E s:=by
 unfold noteFrame
 simp only[hf]
 rcases ht with h1 | ⟨T,oT,ts,f,h1,hTe,hT,hdT,h3,hfl⟩
 ·refine wpAny_bind (wpAny_field he hd h1 ?_)
  rw[if_neg (by decide)]
  exact mO hfr hl hf he hd (Array.getElem?_eq_some_iff.mp h1).1 fun h' T a b c k=>h h' T a b c fun x o hx=>k x o fun q=>hx (.inl q)
 ·refine wpAny_bind (wpAny_field he hd h1 ?_)
  rw[if_pos (show (Value.ref T != Value.none)=true from by simp)]
  refine wpAny_bind (wpAny_field hT hdT h3 ?_)
  rw[if_neg (by rw[hfl];decide)]
  refine wpAny_bind (wpAny_setField hT hdT (Array.getElem?_eq_some_iff.mp h3).1 ?_)
  have other:∀b,b≠T→(s.heap.update T (Obj.mapFields (·.setIfInBounds 3 Value.none))).get? b=s.heap.get? b:=fun b hb=>Heap.get?_update_other _ _ (Ne.symm hb)
  refine mO (s:={ s with heap:=s.heap.update T (Obj.mapFields (·.setIfInBounds 3 Value.none)) }) hfr (hl.of_keeps fun b o hb hnf=>⟨o,(other b fun q=>by rw[q,hT] at hb;cases hb;exact hnf ts hdT).trans hb,rfl⟩) hf ((other e (Ne.symm hTe)).trans he) hd (Array.getElem?_eq_some_iff.mp h1).1
   fun h' T' a b c k=>h h' T' ?_ b c fun x o hx e=>?_
  ·by_cases q:T'=T
   ·subst q
    have:(s.heap.update T' (Obj.mapFields (·.setIfInBounds 3 Value.none))).get? T'≠none:=by
     rw[Heap.get?_update_self _ hT (Obj.isFreed_of_fields (Obj.data_mapFields hdT _))];simp
    exact absurd a this
   ·exact(other T' q).symm.trans a
  ·exact k x o (fun q=>hx (.inl q)) ((other x fun q=>hx (.inr (q ▸ h1))).trans e)
theorem ke (hf:env.frame=some L) (he:s.heap.get? e=some oe) (hd:oe.data = .fields vs) (h1:vs[1]? = some (.ref T)) (hT:s.heap.get? T=some oT) (hdT:oT.data = .fields ts) (h3:ts[3]? = some (rawInt L)) (h:Q () s) :
  wpAny M A (noteFrame (.ref e) env) Q E s:=by
 unfold noteFrame
 simp only[hf]
 refine wpAny_bind (wpAny_field he hd h1 ?_)
 rw[if_pos (show (Value.ref T != Value.none)=true from by simp)]
 refine wpAny_bind (wpAny_field hT hdT h3 ?_)
 rw[if_pos (show (rawInt L==rawInt L)=true from by simp)]
 exact wpAny_pure h
theorem eA (he:s.heap.get? e=some oe) (hd:oe.data = .fields vs) (h1:vs[1]? = some (.ref T)) (hTe:T≠e) (hT:s.heap.get? T=some oT) (hdT:oT.data = .fields ts) (h3:ts[3]? = some x)
  (h:∀h',(∃oT' ts',h'.get? T=some oT'∧oT'.data = .fields ts'∧ts'[3]? = some (fr.elim .none fun f=>rawInt f))→(∀b,b≠T→h'.get? b=s.heap.get? b)→Q () { s with heap:=h' }):wpAny M A (setFlight (.ref e) fr) Q E s:=by
 unfold setFlight
 refine wpAny_bind (wpAny_field he hd h1 ?_)
 rw[if_pos (show (Value.ref T != Value.none)=true from by simp)]
 have hsz:=(Array.getElem?_eq_some_iff.mp h3).1
 refine wpAny_setField hT hdT hsz (h _ ⟨_,_,Heap.get?_update_self _ hT (Obj.isFreed_of_fields (Obj.data_mapFields hdT _)),Obj.data_mapFields hdT _,by simp[hsz]⟩ fun b hb=>Heap.get?_update_other _ _ (Ne.symm hb))
theorem iH (he:s.heap.get? e=some oe) (hd:oe.data = .fields vs) (h1:vs[1]? = some .none) (h:Q () s):wpAny M A (setFlight (.ref e) fr) Q E s:=by
 unfold setFlight
 refine wpAny_bind (wpAny_field he hd h1 ?_)
 rw[if_neg (by decide)]
 exact wpAny_pure h
end
theorem StC.touch (S:StC g A σ π s) (hi:σ[i]? = some o) (ho:own π i o=[π.a i]) (hX:∀b,X b→¬Tr π σ b∧g.get? b=none∧b ∉ Mine.frs A)
  (hk:KeepBut (Mine.frs A) (fun b=>b=π.a i∨X b) s.heap s'.heap) (hr:ORep π σ.length s'.heap i o) (os:s'.os=s.os) (gens:s'.gens=s.gens):StC g A σ π s'∧Fwd A X σ π s σ π s':=by
 (refine aF (S.frs) fun fs f1 f2=>?_)
 have ti:Tr π σ (π.a i):=⟨i,o,hi,by rw[ho];simp⟩
 have nf:∀b,Tr π σ b→b ∉ Mine.frs A:=fun b t q=>by
  rw[ew f1] at q
  (refine aF (List.mem_filterMap.mp q) fun f hf e=>?_)
  (refine df (f2 f hf) fun _ L _ a _ _ _ d=>?_)
  rw[a] at e;cases e;exact d t
 refine⟨⟨fun b ob e=>?_,⟨fun j p hj=>?_,S.rep.sep,S.rep.new⟩,fs,f1,fun f hf=>?_⟩,⟨.refl ..,Nat.le_refl _,fun b ob h1 h2 e=>hk b ob (fun q=>?_) e,fun b h => .inl h,fun _ t=>t,os,gens⟩⟩
 ·refine(hk b ob (fun q=>?_) (S.keepg b ob e)).1 fun q=>?_
  ·rcases q with rfl | q
   ·rw[S.rep.new i o _ hi (by rw[ho];simp)] at e;cases e
   ·rw[(hX b q).2.1] at e;cases e
  ·rw[ew f1] at q
   (refine aF (List.mem_filterMap.mp q) fun f hf e'=>?_)
   (refine df (f2 f hf) fun _ L _ a _ _ d _=>?_)
   rw[a] at e';cases e';rw[d] at e;cases e
 ·by_cases hij:j=i
  ·subst hij;rw[hi] at hj;cases hj;exact hr
  ·refine(S.rep.at_ j p hj).mono (.refl ..) (Nat.le_refl _) (List.getElem?_eq_some_iff.mp hj).1 fun b hb ob e=>?_
   have tb:Tr π σ b:=⟨j,p,hj,hb⟩
   refine(hk b ob (fun q=>?_) e).1 (nf b tb)
   rcases q with rfl | q
   ·exact hij (S.rep.sep j i p o _ hj hi hb (by rw[ho];simp))
   ·exact(hX b q).1 tb
 ·(refine df (f2 f hf) fun k L ob a b c d t=>?_)
  obtain⟨_,sl,e⟩:=hk L ob (fun q=>by
   rcases q with rfl | q
   ·exact t ti
   ·exact(hX L q).2.2 (by rw[ew f1];exact List.mem_filterMap.mpr ⟨f,hf,a⟩)) b
  exact⟨k,L,_,a,e,c,d,t⟩
 ·rcases q with rfl | q
  ·exact h1 ti
  ·exact h2 q
theorem Fwd.absorb (x:Fwd A Y σ₀ π₀ s₀ σ π s) (y:Fwd A X σ π s σ' π' s') (hX:∀b,X b→s₀.heap.get? b=none∧¬Tr π' σ' b) (hY:∀b,Y b→¬Tr π' σ' b):Fwd A Y σ₀ π₀ s₀ σ' π' s':=by
 have z:=(x.widen (Y:=fun b=>X b∨Y b) fun _ h => .inr h).trans (y.widen (Y:=fun b=>X b∨Y b) fun _ h => .inl h) fun b hb=>hb.elim (fun h=>(hX b h).2) (hY b)
 exact⟨z.ext,z.len,fun b o h1 h2 h3=>z.kept b o h1 (fun q=>q.elim (fun q=>by rw[(hX b q).1] at h3;cases h3) h2) h3,z.fresh,z.stay,z.os,z.gens⟩
end
section
variable {G:Gd} {F:Fx} {A:Around} {lv lv' lv₁ lv₂:List (Str×AV)} {σ σ' σ₁ σ₂ σ₃:List AO} {π π':PM} {s s':Shared}
def Rest (g:Heap) (π:PM) (σ:List AO) (h₀ h:Heap) (e:Addr):Prop :=
 ∃oe vs,h.get? e=some oe∧oe.data = .fields vs∧(vs[1]? = some .none∨∃T oT ts,vs[1]? = some (.ref T)∧T≠e∧h.get? T=some oT∧oT.data = .fields ts∧ts[3]? = some .none∧h₀.get? T=none∧¬Tr π σ T∧g.get? T=none)
theorem xj {Q:Shared→Prop} (S:StC g A σ π s) (hfr:A.frames=some (env::outer)) (hf:env.frame=some L) (hi:σ[i]? = some (.exc C j false))
  (R:Rest g π σ h₀ s.heap (π.a i)) (hdom:∀b,s.heap.get? b=none→h₀.get? b=none)
  (hQ:∀s',StC g A σ π s'→(∃X:Addr→Prop,(∀b,X b→h₀.get? b=none∧¬Tr π σ b)∧Fwd A X σ π s σ π s')→Rest g π σ h₀ s'.heap (π.a i)→Q s') :
  aS M A (noteFrame (.ref (π.a i)) env) (fun _ s₂=>aS M A (setFlight (.ref (π.a i)) none) (fun _ s₃=>Q s₃) E s₂) E s:=by
 (refine cy R fun oe vs he hd hr=>?_;clear R)
 (refine aF (S.frs) fun fs f1 f2=>?_)
 have efs:fs=env::outer:=Option.some.inj (f1.symm.trans hfr)
 subst efs
 (refine cP (S.rep.at_ i _ hi) fun o vs' x ho hc hod hj hdat h1 _=>?_)
 obtain rfl:o=oe:=Option.some.inj (ho.symm.trans he)
 obtain rfl:vs'=vs:=by rw[hd] at hdat;cases hdat;rfl
 have hsz:1 < vs'.size:=(Array.getElem?_eq_some_iff.mp h1).1
 have nfr:∀T oT (ts:Array Value),s.heap.get? T=some oT→oT.data = .fields ts→T ∉ frs A:=fun T oT ts hT hdT q=>by
  rw[ew hfr] at q
  (refine aF (List.mem_filterMap.mp q) fun f hf' e'=>?_)
  (refine hS (f2 f hf') fun _ L' o' a b c _=>?_)
  rw[a] at e';cases e'
  rw[b] at hT;cases hT;exact c ts hdT
 refine bn (iI (M:=M) hfr (FrsOk.fun f2) hf he hd ?_ fun h' T hT he' hT' hk=>?_)
 ·rcases hr with h1 | ⟨T,oT,ts,h1,hTe,hT,hdT,h3,_⟩
  ·exact .inl h1
  ·exact .inr ⟨T,oT,ts,_,h1,hTe,hT,hdT,h3,by simp[rawInt]⟩
 (refine cy hT' fun oT ts hT1 hT2 hT3=>?_;clear hT')
 have hTe:T≠π.a i:=fun q=>by rw[q,he] at hT;cases hT
 have hd':=Obj.data_mapFields hd (·.setIfInBounds 1 (Value.ref T))
 refine bn (eA (s:={ s with heap:=h' }) he' hd' (by simp[hsz]) hTe hT1 hT2 hT3 fun h'' ⟨oT',ts',k1,k2,k3⟩ kk=>?_)
 have he'':h''.get? (π.a i)=some (Obj.mapFields (·.setIfInBounds 1 (.ref T)) o):=(kk _ (Ne.symm hTe)).trans he'
 have hX:∀b,(vs'[1]? = some (.ref b)∨b=T)→¬Tr π σ b∧g.get? b=none∧b ∉ frs A∧h₀.get? b=none:=fun b hb=>by
  rcases hb with hb | rfl
  ·rcases hr with q | ⟨T₀,oT₀,ts₀,q1,q2,q3,q4,q5,q6,q7,q8⟩
   ·rw[q] at hb;cases hb
   ·rw[q1] at hb;cases hb;exact⟨q7,q8,nfr _ _ _ q3 q4,q6⟩
  ·refine⟨fun t=>?_,?_,fun q=>?_,hdom _ hT⟩
   ·(refine b8 (S.rep.there t) fun ob q=>?_);rw[hT] at q;cases q
   ·cases q:g.get? b with
    | none=>rfl
    | some ob=>have:=S.keepg _ _ q;rw[hT] at this;cases this
   ·rw[ew hfr] at q
    (refine aF (List.mem_filterMap.mp q) fun f hf' e'=>?_)
    (refine jo (f2 f hf') fun _ L' o' a b _=>?_)
    rw[a] at e';cases e';rw[hT] at b;cases b
 obtain⟨S',W'⟩:=S.touch (s':={ s with heap:=h'' }) (X:=fun b=>vs'[1]? = some (.ref b)∨b=T) hi rfl (fun b hb=>⟨(hX b hb).1,(hX b hb).2.1,(hX b hb).2.2.1⟩) (fun b ob hb e=>by
  have hbT:b≠T:=fun q=>hb (.inr (.inr q))
  (refine hZ (hk b ob (fun q=>hb (q.elim .inl fun q => .inr (.inl q))) e) fun a1 sl a2=>?_)
  rw[ew hfr]
  exact⟨fun q=>(kk b hbT).trans (a1 q),sl,(kk b hbT).trans a2⟩)
  ⟨_,_,.ref T,he'',(by rw[Obj.cls_mapFields];exact hc),(by obtain⟨_,_,dt,_⟩:=o;cases dt<;>exact hod),hj,hd',by simp[hsz],fun q=>by cases q⟩ rfl rfl
 exact hQ _ S' ⟨_,fun b hb=>⟨(hX b hb).2.2.2,(hX b hb).1⟩,W'⟩ ⟨_,_,he'',hd',.inr ⟨T,oT',ts',by simp[hsz],hTe,k1,k2,k3,(hX T (.inr rfl)).2.2.2,(hX T (.inr rfl)).1,(hX T (.inr rfl)).2.1⟩⟩
theorem yU (S:StC g A σ π s) (hi:σ[i]? = some (.exc C j false))
  (R:Rest g π σ h₀ s.heap (π.a i)) (hQ:∀s',StC g A σ π s'→(∃X:Addr→Prop,(∀b,X b→h₀.get? b=none∧¬Tr π σ b)∧Fwd A X σ π s σ π s')→Rest g π σ h₀ s'.heap (π.a i)→Q () s'):aS M A (setFlight (.ref (π.a i)) none) Q E s:=by
 (refine cy (id R) fun oe vs he hd hr=>?_)
 rcases hr with h1 | ⟨T,oT,ts,h1,hTe,hT,hdT,h3,q6,q7,q8⟩
 ·exact bn (iH he hd h1 (hQ s S ⟨cG,fun _ h=>h.elim,S.same⟩ R))
 ·refine bn (eA he hd h1 hTe hT hdT h3 fun h'' ⟨oT',ts',k1,k2,k3⟩ kk=>?_)
  (refine cP (S.rep.at_ i _ hi) fun o vs' x ho hc hod hj hdat h1' _=>?_)
  (refine aF (S.frs) fun fs f1 f2=>?_)
  have hnf:T ∉ frs A:=fun q=>by
   rw[ew f1] at q
   (refine aF (List.mem_filterMap.mp q) fun f hf' e'=>?_)
   (refine hS (f2 f hf') fun _ L' o' a b c _=>?_)
   rw[a] at e';cases e'
   rw[b] at hT;cases hT;exact c ts hdT
  obtain⟨S',W'⟩:=S.touch (s':={ s with heap:=h'' }) (X:=fun b=>b=T) hi rfl (fun b hb=>by subst hb;exact⟨q7,q8,hnf⟩) (fun b ob hb e=>⟨fun _=>(kk b fun q=>hb (.inr q)).trans e,ob.slots,(kk b fun q=>hb (.inr q)).trans e⟩)
   ⟨o,vs',x,(kk _ (Ne.symm hTe)).trans ho,hc,hod,hj,hdat,h1',fun q=>by cases q⟩ rfl rfl
  exact hQ _ S' ⟨_,fun b hb=>by subst hb;exact⟨q6,q7⟩,W'⟩ ⟨oe,vs,(kk _ (Ne.symm hTe)).trans he,hd,.inr ⟨T,oT',ts',h1,hTe,k1,k2,k3,q6,q7,q8⟩⟩
abbrev yO (G:Gd) (A:Around) (σ:List AO) (π:PM) (s:Shared) (i:Nat) (σ':List AO) (E:Value→Shared→Prop):Prop :=
 ∀π' s',StC G.g A σ' π' s'→Fwd A cG σ π s σ' π' s'→Rest G.g π' σ' s.heap s'.heap (π'.a i)→E (.ref (π'.a i)) s'
def yk (G:Gd) (A:Around) (σ:List AO) (f:AV) (as:List AV) (i:Nat) (σ':List AO):Prop :=
 ∀π s fv vs,StC G.g A σ π s→VR π σ.length f fv→VRs π σ.length as vs→∀Q E,yO G A σ π s i σ' E→aS G.M A (call fv vs []) Q E s
def zM (G:Gd) (F:Fx) (lv:List (Str×AV)) (σ:List AO) (e:Expr) (i:Nat) (σ':List AO):Prop :=
 ∀π s,St G F lv σ π s→∀Q E,yO G F.A σ π s i σ' E→aS G.M F.A (eval e F.env) Q E s
abbrev wt (G:Gd) (F:Fx) (σ:List AO) (π:PM) (s:Shared) (i:Nat) (lv':List (Str×AV)) (σ':List AO) (E:Value→Shared→Prop):Prop :=
 ∀π' s',St G F lv' σ' π' s'→Fwd F.A (·=F.env.locals) σ π s σ' π' s'→Rest G.g π' σ' s.heap s'.heap (π'.a i)→E (.ref (π'.a i)) s'
def qI (G:Gd) (F:Fx) (lv:List (Str×AV)) (σ:List AO) (st:Stmt) (i:Nat) (lv':List (Str×AV)) (σ':List AO):Prop :=
 ∀π s,St G F lv σ π s→∀Q E,wt G F σ π s i lv' σ' E→aS G.M F.A (exec st F.env) Q E s
def xJ (G:Gd) (F:Fx) (lv:List (Str×AV)) (σ:List AO) (st:List Stmt) (i:Nat) (lv':List (Str×AV)) (σ':List AO):Prop :=
 ∀π s,St G F lv σ π s→∀Q E,wt G F σ π s i lv' σ' E→aS G.M F.A (execs st F.env) Q E s
theorem Rest.older (R:Rest g π σ h₁ h e) (k:∀b,h₁.get? b=none→h₀.get? b=none):Rest g π σ h₀ h e:=by
 (refine cy R fun oe vs he hd hr=>?_;clear R)
 refine⟨oe,vs,he,hd,?_⟩
 rcases hr with h1 | ⟨T,oT,ts,h1,hTe,hT,hdT,h3,q6,q7⟩
 ·exact .inl h1
 ·exact .inr ⟨T,oT,ts,h1,hTe,hT,hdT,h3,k _ q6,q7⟩
theorem St.backL (S:St G F lv' σ' π' s') (W:Fwd F.A (·=F.env.locals) σ π s σ' π' s'):∀b,s'.heap.get? b=none→s.heap.get? b=none:=cZ fun _ _ h=>W.dom S.c (fun b x=>by
 subst x;(refine aF (S.loc) fun m zz51 _=>?_;refine cM zz51 fun o es ep l1 _=>?_;clear zz51);exact⟨o,l1⟩) h
theorem v9 (x:Ev G F lv σ f fv σ₁) (y:tR G F lv σ₁ args as σ₂) (k:nZ G F.A σ₂ fv) (z:yk G F.A σ₂ fv as i σ₃)
  (he:∀env,eval (.Call f args [] pos) env=(do callWith pos (← eval f env) [] (backTo pos (starEach args env)) (backToKw pos (keywordEach [] env))):=by intro _;rfl)
  (hp:∀env,(backTo pos (starEach args env)).any (·.1)=false:=by intro _;rfl):zM G F lv σ (.Call f args [] pos) i σ₃:=fun π s S Q E h=>by
 rw[he]
 refine ae (x π s S _ E fun π₁ s₁ v₁ C₁ W₁ R₁=>?_)
 refine ee (hp _) (y pos π₁ s₁ (S.fwd C₁ W₁) _ E fun π₂ s₂ vs C₂ W₂ R₂=>⟨k π₂ s₂ _ C₂ (R₁.mono W₂.ext W₂.len),?_⟩)
 rw[List.nil_append]
 have W:=W₁.transN W₂
 exact z π₂ s₂ _ vs C₂ (R₁.mono W₂.ext W₂.len) R₂ Q E fun π₃ s₃ C₃ W₃ R₃=>h π₃ s₃ C₃ (W.transN W₃) (R₃.older (W.back C₂))
theorem xX (x:Ev G F lv σ o ov σ₁) (m:Gm G F.A σ₁ ov name fv first) (y:tR G F lv σ₁ args as σ₂) (ha:first++as=al) (k:nZ G F.A σ₂ fv) (z:yk G F.A σ₂ fv al i σ₃)
  (hb:∀env,attributeBase o name env (eval o env)=eval o env:=by intro _;rfl)
  (hfew:∀env,methodCallForm (args.length+([]:List Keyword).length) (backTo pos (starEach args env)) (backToKw pos (keywordEach [] env))=true:=by intro _;rfl)
  (hline:(apos.endLine==pos.line)=true:=by rfl)
  (hp:∀env,(backTo pos (starEach args env)).any (·.1)=false:=by intro _;rfl):zM G F lv σ (.Call (.Attribute o name apos) args [] pos) i σ₃:=fun π s S Q E h=>by
 subst ha
 rw[arm_eval_Call,hb]
 refine ae (x π s S _ E fun π₁ s₁ v₁ C₁ W₁ R₁=>ae (bz ?_))
 unfold methodCall
 rw[hfew]
 refine ae (aq ?_)
 show aS G.M F.A (getMethod v₁ name _) _ E s₁
 refine m π₁ s₁ v₁ C₁ R₁ _ _ E fun s₂ f₂ fs₂ C₂ W₂ Rf Rs=>?_
 have hpos:methodCallPos true o F.env apos pos=pure pos:=by
  unfold methodCallPos
  rw[if_pos (by rw[hline];rfl)]
 rw[hpos]
 refine ae (ak ?_)
 have W:=W₁.transN W₂
 refine ee (hp _) (y pos π₁ s₂ (S.fwd C₂ W) _ E fun π₃ s₃ vs C₃ W₃ R₃=>⟨k π₃ s₃ _ C₃ (Rf.mono W₃.ext W₃.len),?_⟩)
 have W':=W.transN W₃
 exact z π₃ s₃ _ _ C₃ (Rf.mono W₃.ext W₃.len) ((Rs.mono W₃.ext W₃.len).append R₃) Q E fun π₄ s₄ C₄ W₄ R₄=>h π₄ s₄ C₄ (W'.transN W₄) (R₄.older (W'.back C₃))
theorem vI {st:Stmt} (x:qI G F lv σ st i lv₁ σ₁):xJ G F lv σ (st::rest) i lv₁ σ₁:=fun π s S Q E h=>dj (x π s S _ E h)
theorem vJ {st:Stmt} (x:ou G F lv σ st .next lv₁ σ₁) (y:xJ G F lv₁ σ₁ rest i lv₂ σ₂):xJ G F lv σ (st::rest) i lv₂ σ₂:=fun π s S Q E h =>
 dj (x π s S _ E fun π₁ s₁ fl S₁ W₁ R₁=>by
  have:fl = .next:=R₁
  subst this
  exact y π₁ s₁ S₁ Q E fun π₂ s₂ S₂ W₂ R₂=>h π₂ s₂ S₂ (S₂.transL W₁ W₂) (R₂.older (S₁.backL W₁)))
theorem pE (x:zM G F lv σ e i σ₁) (hs:∀env,swapsWithSole [t] e pos.line env=pure false:=by intro _;rfl) (hw:∀env,swappedStores [t] e env=pure none:=by intro _;rfl):qI G F lv σ (.Assign [t] e pos) i lv σ₁:=fun π s S Q E h =>
 iS (x π s S _ E fun π₁ s₁ C₁ W₁ R₁=>h π₁ s₁ (S.fwd C₁ W₁) W₁.toX R₁) (hs _) (hw _)
theorem vO (x:zM G F lv σ e i σ₁):qI G F lv σ (.Return (some e) pos) i lv σ₁:=fun π s S Q E h =>
 gH (x π s S _ E fun π₁ s₁ C₁ W₁ R₁=>h π₁ s₁ (S.fwd C₁ W₁) W₁.toX R₁)
theorem ta (hk:F.env.scope.kind = .function) (x:zM G F lv σ e i σ₁) (hs:∀env,swapsWith e none pos.line env=pure false:=by intro _;rfl):qI G F lv σ (.Expr e pos) i lv σ₁:=fun π s S Q E h =>
 oB (x π s S _ E fun π₁ s₁ C₁ W₁ R₁=>h π₁ s₁ (S.fwd C₁ W₁) W₁.toX R₁) (by unfold interactive;rw[hk];rfl) (hs _)
theorem rz (x:Ts G F lv σ t c σ₁) (y:cond c (xJ G F lv σ₁ b i lv₂ σ₂) (xJ G F lv σ₁ o i lv₂ σ₂)):qI G F lv σ (.If t b o pos) i lv₂ σ₂:=fun π s S Q E h=>by
 cases c with
 | true=>exact m7 (x π s S _ E fun π₁ s₁ C₁ W₁=>by rw[if_pos rfl];exact y π₁ s₁ (S.fwd C₁ W₁) Q E fun π₂ s₂ S₂ W₂ R₂=>h π₂ s₂ S₂ (S₂.transL W₁.toX W₂) (R₂.older (W₁.back C₁)))
 | false=>exact m7 (x π s S _ E fun π₁ s₁ C₁ W₁=>by rw[if_neg Bool.false_ne_true];exact y π₁ s₁ (S.fwd C₁ W₁) Q E fun π₂ s₂ S₂ W₂ R₂=>h π₂ s₂ S₂ (S₂.transL W₁.toX W₂) (R₂.older (W₁.back C₁)))
end
section
variable {G:Gd} {F:Fx} {A:Around} {lv lv' lv₁ lv₂:LV} {σ σ' σ₁ σ₂ σ₃:LA} {π π':PM} {s s':Shared}
theorem kX (f1:A.frames=some fs) (hL:env.frame=some L):frs (A.deeper env)=L::frs A:=by
 have e1:(A.deeper env).frames=some (env::fs):=by show A.frames.map (env::·)=_;rw[f1];rfl
 rw[ew e1,ew f1]
 show List.filterMap _ (env::fs)=_
 rw[List.filterMap_cons,hL];rfl
theorem gf (hE:env.frame=some L) (S:StC g A σ π s) (hk₀:∀b o,s.heap.get? b=some o→s₁.heap.get? b=some o) (hL:s.heap.get? L=none) (os:s₁.os=s.os) (gens:s₁.gens=s.gens)
  (S':StC g (A.deeper env) σ' π' s') (W':Fwd (A.deeper env) X σ π s₁ σ' π' s') (hX:∀b,X b→s.heap.get? b=none):StC g A σ' π' s'∧Fwd A cG σ π s σ' π' s':=by
 (refine aF (S.frs) fun fs f1 f2=>?_)
 (refine aF (S'.frs) fun fs' f1' f2'=>?_)
 have e:fs'=env::fs:=by
  have:(A.frames.map (env::·))=some fs':=f1'
  rw[f1] at this;exact(Option.some.inj this).symm
 subst e
 refine⟨⟨S'.keepg,S'.rep,fs,f1,fun g hg=>f2' g (List.mem_cons_of_mem _ hg)⟩,⟨W'.ext,W'.len,fun b ob h1 _ h3=>?_,fun b hb=>?_,W'.stay,W'.os.trans os,W'.gens.trans gens⟩⟩
 ·have hne:b≠L:=fun q=>by rw[q,hL] at h3;cases h3
  (refine bD (W'.kept b ob h1 (fun q=>by rw[hX b q] at h3;cases h3) (hk₀ b ob h3)) fun k1 k2=>?_)
  refine⟨fun hb=>k1 fun hb'=>?_,k2⟩
  rw[kX f1 hE] at hb'
  rcases List.mem_cons.mp hb' with q | q
  ·exact hne q
  ·exact hb q
 ·rcases W'.fresh b hb with q | q
  ·exact .inl q
  ·right
   cases q':s.heap.get? b with
   | none=>rfl
   | some ob=>have:=hk₀ b ob q';rw[q] at this;cases this
theorem yf {names:List Str} (D:DefAt G a fd) (hr:A.depth < recursionLimit) (hb:fd.body = .stmts body)
  (hbind:∀vs:List Value,vs.length=names.length→bindArgs fd ⟨vs,[]⟩=pure (names.zip vs)) (hn:as.length=names.length) (hnd:names.Nodup)
  (hcell:∀x∈fd.scope.names,x.2 ≠ .cell) (hloc:∀x∈names,fd.scope.names.lookup x=some .local) (hcl:fd.closure=[])
  (h:∀L,∃lv',xJ G ⟨A.deeper (callEnv fd L a),callEnv fd L a,[]⟩ (names.zip as) σ body i lv' σ') (hi:σ'[i]? = some (.exc C j false))
  (hco:fd.scope.isCoroutine=false:=by rfl) (hgen:fd.scope.isGenerator=false:=by rfl) (hk:fd.scope.kind = .function:=by rfl):yk G A σ (.base a) as i σ':=fun π s fv vs S hf hv Q E hq=>by
 subst hf
 (refine aF (D.at_) fun o ho hd=>?_)
 have hlen:vs.length=names.length:=hv.length.symm.trans hn
 refine dk (fe hr (S.keepg _ _ ho) hd (let ⟨mc,p,q⟩:=D.lim;⟨mc,p.keeps S.keepg,q⟩) (D.code.keeps S.keepg) hb (hbind vs hlen) hcell (fun x hx=>hloc _ ?_) (fun h₀ hns hk₀=>?_) hco hgen hk)
 ·obtain⟨y,v⟩:=x
  exact(List.of_mem_zip hx).1
 have hL:s.heap.get? s.heap.objs.size=none:=aC _
 (refine bD (S.keeps (X:=cG) (s':={ s with heap:=h₀,toks:=s.toks+(names.zip vs).length }) hk₀ rfl rfl) fun C₁ W₁=>?_)
 (refine aF (C₁.frs) fun fs f1 f2=>?_)
 have hgL:G.g.get? s.heap.objs.size=none:=by
  cases q:G.g.get? s.heap.objs.size with
  | none=>rfl
  | some o=>have:=S.keepg _ _ q;rw[hL] at this;cases this
 have htL:¬Tr π σ s.heap.objs.size:=fun t=>by
  (refine b8 (S.rep.there t) fun ob hob=>?_)
  rw[hL] at hob;cases hob
 have hfr:(A.deeper (callEnv fd s.heap.objs.size a)).frames=some (callEnv fd s.heap.objs.size a::fs):=by show (A.frames.map _)=_;rw[f1];rfl
 have S0:St G ⟨A.deeper (callEnv fd s.heap.objs.size a),callEnv fd s.heap.objs.size a,[]⟩ (names.zip as) σ π { s with heap:=h₀,toks:=s.toks+(names.zip vs).length }:=by
  refine⟨⟨C₁.keepg,C₁.rep,(callEnv fd s.heap.objs.size a)::fs,hfr,fun g hg=>?_⟩,⟨_,hns,?_⟩,hgL,htL,?_,fun p hp=>by cases hp⟩
  ·rcases List.mem_cons.mp hg with rfl | hg
   ·(refine cQ hns fun o' es ep g1 g2 _=>?_;clear hns)
    exact⟨by show fd.scope.kind≠_;rw[hk];decide,_,o',rfl,g1,(fun vs q=>by rw[g2] at q;cases q),hgL,htL⟩
   ·exact f2 g hg
  ·have:=ku (ns:=names) hv
   have e:(fun x=>(names.zip vs).reverse.lookup x)=fun x=>(names.zip vs).lookup x:=funext fun x=>dm hnd hlen.symm
   rw[e];exact this
  ·show fd.closure=_;rw[hcl];rfl
 (refine b8 (h s.heap.objs.size) fun lv' h=>?_)
 refine h π _ S0 _ _ fun π' s' S' W' R'=>?_
 have back:=S'.backL W'
 unfold leaving
 refine ae (xj (h₀:=h₀) S'.c hfr rfl hi R' back fun s'' S'' ⟨X,hX,W''⟩ R''=>?_)
 have WW:Fwd (A.deeper (callEnv fd s.heap.objs.size a)) (·=s.heap.objs.size) σ π { s with heap:=h₀,toks:=s.toks+(names.zip vs).length } σ' π' s'':=W'.absorb W'' hX fun b hb=>by rw[hb];exact S'.trL
 (refine bD (gf (A:=A) (s₁:={ s with heap:=h₀,toks:=s.toks+(names.zip vs).length }) (X:=(·=s.heap.objs.size)) rfl S hk₀ hL rfl rfl S'' WW (fun b hb=>by rw[hb];exact hL)) fun B1 B2=>?_)
 exact hq π' s'' B1 B2 (R''.older (cZ fun b o e=>⟨o,hk₀ b o e⟩))
theorem qH (P:ECls G.g C N) (x:Ev G F lv σ e (.dyn i) σ₁) (hi:σ₁[i]? = some (.exc C j true)) (hh:F.A.handled=none):qI G F lv σ (.Raise (some e) none pos) i lv (σ₁.set i (.exc C j false)):=fun π s S Q E h=>by
 rw[arm_exec_Raise]
 have hbm:mM.contains (.type "BaseException")=true:=by decide
 refine ae (bz ?_)
 unfold raiseStmt
 simp only[evalOpt,Option.map]
 refine ae (ae (x π s S _ E fun π₁ s₁ v C₁ W₁ R₁=>ae (bz (ak ?_))))
 (refine bD R₁ fun hlt zz9=>?_;clear R₁;subst zz9)
 (refine cP (C₁.rep.at_ i _ hi) fun o vs y ho hc hod hj hdat h1 hnew=>?_)
 cases hnew rfl
 (refine cx (P.obj) fun nm q bs sn sub col dd k0 k1 k2 k3 k5 hC=>?_)
 have hC':=C₁.keepg _ _ hC
 have hcB:(Value.ref C::mM).contains (.type "BaseException")=true:=by rw[List.contains_cons,hbm,Bool.or_true]
 (refine bD (C₁.update (X:=cG) (s':=s₁) (o' := .exc C j false) hi rfl (fun b ob _ e=>e) ⟨o,vs,.none,ho,hc,hod,hj,hdat,h1,fun q=>by cases q⟩ rfl rfl) fun C₂ W₂=>?_)
 have fin:=h π₁ s₁ (S.fwd C₂ (W₁.transN W₂)) (W₁.transN W₂).toX ⟨o,vs,ho,hdat,.inl h1⟩
 obtain⟨hp,g,d,tk,os⟩:=s₁
 refine bn ?_
 repeat (first | (with_reducible refine wpAny_loadPart_at ho ?_;rw[hc]) | with_reducible refine wpAny_loadPart_at hC' ?_ | (with_reducible refine wpAny_isSubtype_exc hC' ?_;rw[hcB]) | (with_reducible refine wpAny_bind (iH ho hdat h1 ?_)) | wp_step)
 exact wpAny_raiseNew_none hh fin
theorem St.locals (S:St G F lv σ π s) (hn:h'.Ns F.env.locals m) (hs:Heap.SameBut F.env.locals s.heap h') (hl:LvR π σ.length lv' m) :
  St G F lv' σ π { s with heap:=h',toks:=tk }∧Fwd F.A (·=F.env.locals) σ π s σ π { s with heap:=h',toks:=tk }:=by
 have hkeep:∀b o,b≠F.env.locals→s.heap.get? b=some o→h'.get? b=some o:=fun b o hne e=>(hs.2 b hne).trans e
 refine⟨⟨⟨fun b o e=>hkeep b o (fun q=>by rw[q,S.gL] at e;cases e) (S.c.keepg b o e),⟨fun i o h=>(S.c.rep.at_ i o h).mono (.refl ..) (Nat.le_refl _) (List.getElem?_eq_some_iff.mp h).1 fun b hb' ob e=>hkeep b ob (fun q=>S.trL (q ▸ ⟨i,o,h,hb'⟩)) e,S.c.rep.sep,S.c.rep.new⟩,?_⟩,⟨m,hn,hl⟩,S.gL,S.trL,S.cells⟩,
  ⟨.refl ..,Nat.le_refl _,fun b o _ hb' e=>⟨fun _=>hkeep b o hb' e,o.slots,hkeep b o hb' e⟩,fun b h => .inl h,fun _ t=>t,rfl,rfl⟩⟩
 (refine aF (S.c.frs) fun fs f1 f2=>?_)
 refine⟨fs,f1,fun f hf=>?_⟩
 (refine df (f2 f hf) fun k L o a1 b1 c1 d1 e1=>?_)
 by_cases hL:L=F.env.locals
 ·(refine cQ hn fun o' es ep g1 g2 _=>?_;clear hn)
  exact⟨k,L,o',a1,by rw[hL];exact g1,(fun vs q=>by rw[g2] at q;cases q),d1,e1⟩
 ·exact⟨k,L,o,a1,hkeep _ _ hL b1,c1,d1,e1⟩
noncomputable abbrev Fx.mark (F:Fx) (h:Option Value):Fx:=⟨F.A.mark h,F.env,F.cl⟩
theorem St.mark (S:St G F lv σ π s):St G (F.mark h) lv σ π s:=⟨S.c.reA rfl,S.loc,S.gL,S.trL,S.cells⟩
theorem St.unmark (S:St G (F.mark h) lv σ π s):St G F lv σ π s:=⟨StC.reA (A:=F.A.mark h) (A':=F.A) S.c rfl,S.loc,S.gL,S.trL,S.cells⟩
theorem St.fwdX (S:St G F lv σ π s) (C:StC G.g F.A σ' π' s') (W:Fwd F.A X σ π s σ' π' s') (hX:¬X F.env.locals):St G F lv σ' π' s':=by
 (refine aF (S.loc) fun m zz43 h4=>?_;refine cQ zz43 fun o es ep h1 h2 h3=>?_;clear zz43)
 (refine hZ (W.kept _ _ S.trL hX h1) fun _ sl h5=>?_)
 refine⟨C,⟨m,⟨_,es,ep,h5,h2,h3⟩,h4.mono W.ext W.len⟩,S.gL,fun q=>?_,?_,fun p hp=>Nat.lt_of_lt_of_le (S.cells.2 p hp) W.len⟩
 ·rcases W.fresh _ q with q | q
  ·exact S.trL q
  ·rw[h1] at q;cases q
 ·rw[S.cells.1]
  exact List.map_congr_left fun p hp=>by rw[W.ext.a _ (S.cells.2 p hp)]
def wa (G:Gd) (F:Fx) (lv:LV) (σ:LA) (e:Expr) (v:Value):Prop:=∀π s,St G F lv σ π s→∀ (Q:VS) E,Q v s→aS G.M F.A (eval e F.env) Q E s
theorem qK (S:Sc F ls cs gs) (B:Bs G gt bt) (h:gs.contains (Str.ofString x)=true) (hv:gt.lookup (Str.ofString x)=some (.base a)) (hd:x ≠ "__debug__"):wa G F lv σ (.Name (Str.ofString x) pos) (.ref a):=fun π s S' Q E hq=>by
 (refine cy (B.glob _ _ hv) fun mg v h1 h2 h3=>?_)
 have e:v = .ref a:=h3 π 0
 subst e
 exact bn (Name_function_global S.kind (S.glob _ h) (loadGlobal_global (by rw[S.globals];exact h1.keeps S'.c.keepg) h2 hq) (by rw[bG];exact beq_eq_false_iff_ne.mpr hd))
theorem Sc.mark (S:Sc F ls cs gs):Sc (F.mark h) ls cs gs:=⟨S.kind,S.loc,S.cell,S.glob,S.globals,S.builtins⟩
theorem xL (P:ECls G.g C N) (SC:Sc F ls cs gs) (FM:Fm F) (hn:F.env.kindOf n=some .local)
  (x:xJ G F lv σ body i lv₁ σ₁) (hi:σ₁[i]? = some (.exc C j false)) (t:∀h,wa G (F.mark h) lv₁ σ₁ te (.ref C)) (y:∀h,Ex G (F.mark h) (put n (.dyn i) lv₁) σ₁ (b₀::suite) f lv₂ σ₂) :
  ou G F lv σ (.Try body [.ExceptHandler (some te) (some n) (b₀::suite) hpos] [] [] pos) f (put n .unk lv₂) σ₂:=fun π s S Q E h=>by
 refine qY (x π s S _ _ fun π₁ s₁ S₁ W₁ R₁=>?_)
 (refine b8 (FM.fr) fun A₀ hfr=>?_)
 (refine b8 (FM.own) fun L hf=>?_)
 obtain⟨outer,hfr'⟩:∃outer,F.A.frames=some (F.env::outer):=by
  (refine aF (S.c.frs) fun fs f1 _=>?_)
  rw[hfr] at f1 ⊢
  cases q:A₀.frames with
  | none=>rw[q] at f1;cases f1
  | some l=>exact⟨l,rfl⟩
 have locS:∀b,b=F.env.locals→∃o,s.heap.get? b=some o:=fun b hb=>by subst hb;(refine aF (S.loc) fun m zz54 _=>?_;refine cM zz54 fun o es ep l1 _=>?_;clear zz54);exact⟨o,l1⟩
 refine xj S₁.c hfr' hf hi R₁ (S₁.backL W₁) fun s₂ C₂ ⟨X,hX,W₂⟩ R₂=>?_
 have hXL:∀ {X:Addr→Prop},(∀b,X b→s.heap.get? b=none∧¬Tr π₁ σ₁ b)→¬X F.env.locals:=fun hX q=>by
  (refine b8 (locS _ rfl) fun o e=>?_);rw[(hX _ q).1] at e;cases e
 have S₂:St G F lv₁ σ₁ π₁ s₂:=S₁.fwdX C₂ W₂ (hXL hX)
 have W₁₂:Fwd F.A (·=F.env.locals) σ π s σ₁ π₁ s₂:=W₁.absorb W₂ hX fun b hb=>by rw[hb];exact S₁.trL
 refine lR (by intro q;cases q) ?_
 refine t (some (.ref (π₁.a i))) π₁ s₂ S₂.mark _ _ ?_
 (refine cP (C₂.rep.at_ i _ hi) fun o vs y0 ho hc hod hj hdat h1 hnew=>?_)
 (refine cx (P.obj) fun nm q bs sn sub col dd k0 k1 k2 k3 k5 hC=>?_)
 have hC':=C₂.keepg _ _ hC
 have hlt:i < σ₁.length:=(List.getElem?_eq_some_iff.mp hi).1
 have hbm:mM.contains (.type "BaseException")=true:=by decide
 have matches':∀ {Q:Bool→Shared→Prop} {E},Q true s₂→aS G.M (F.A.mark (some (.ref (π₁.a i)))) (excMatches (.ref (π₁.a i)) (.ref C)) Q E s₂:=fun hq=>by
  obtain⟨hp,g,d,tk,os⟩:=s₂
  exact bn (wpAny_excMatches_sub_self hC' ho hc hbm hq)
 refine matches' ⟨rfl,?_⟩
 refine yU (h₀:=s.heap) (C₂.reA (A':=F.A.mark (some (.ref (π₁.a i)))) rfl) hi R₂ fun s₃ C₃ ⟨X₃,hX₃,W₃⟩ R₃=>?_
 have C₃':StC G.g F.A σ₁ π₁ s₃:=StC.reA (A:=F.A.mark (some (.ref (π₁.a i)))) C₃ rfl
 have W₃':Fwd F.A X₃ σ₁ π₁ s₂ σ₁ π₁ s₃:=Fwd.reA (A:=F.A.mark (some (.ref (π₁.a i)))) W₃ rfl
 have S₃:St G F lv₁ σ₁ π₁ s₃:=S₂.fwdX C₃' W₃' (hXL hX₃)
 have W₁₃:Fwd F.A (·=F.env.locals) σ π s σ₁ π₁ s₃:=W₁₂.absorb W₃' hX₃ fun b hb=>by rw[hb];exact S₁.trL
 refine bn (dZ S₃.mark (a := .dyn i) ⟨hlt,rfl⟩ SC.kind hn fun s₄ S₄ W₄=>?_)
 refine y (some (.ref (π₁.a i))) π₁ s₄ S₄ _ _ fun π₅ s₅ fl S₅ W₅ R₅=>?_
 (refine aF (S₅.loc) fun m hm L5=>?_)
 refine bn (wpAny_nameGoes_keeps hn hm (by rw[SC.kind];rfl) fun h' v hn' hs'=>?_)
 obtain⟨S₆,W₆⟩:=(S₅.unmark).locals (lv':=put n .unk lv₂) (tk:=s₅.toks+1) hn' hs' (fun z=>by
  rw[ge]
  by_cases hz:z=n
  ·rw[if_pos hz];exact fun q=>(q rfl).elim
  ·rw[if_neg hz]
   have:=L5 z
   cases hq:lv₂.lookup z with
   | none=>rw[hq] at this;exact(if_neg hz).trans this
   | some b=>rw[hq] at this;exact fun hu=>let ⟨u,k1,k2⟩:=this hu;⟨u,(if_neg hz).trans k1,k2⟩)
 have W₄':Fwd F.A (·=F.env.locals) σ₁ π₁ s₃ σ₁ π₁ s₄:=Fwd.reA (A:=F.A.mark (some (.ref (π₁.a i)))) W₄ rfl
 have W₅':Fwd F.A (·=F.env.locals) σ₁ π₁ s₄ σ₂ π₅ s₅:=Fwd.reA (A:=F.A.mark (some (.ref (π₁.a i)))) W₅ rfl
 have S₄':St G F _ σ₁ π₁ s₄:=S₄.unmark
 have S₅':St G F lv₂ σ₂ π₅ s₅:=S₅.unmark
 exact h π₅ _ fl S₆ (S₆.transL (S₅'.transL (S₄'.transL W₁₃ W₄') W₅') W₆) R₅
end
section
variable {G:Gd} {F:Fx} {A:Around} {lv lv' lv₁ lv₂:List (Str×AV)} {σ σ' σ₁ σ₂ σ₃:List AO} {π π':PM} {s s':Shared}
theorem vK (x:Ex G F lv σ body f lv₁ σ₁):ou G F lv σ (.Try body (h₀::hs) [] [] pos) f lv₁ σ₁:=fun π s S Q E h=>by
 refine qY (x π s S _ _ fun π₁ s₁ fl S₁ W₁ R₁=>?_)
 have hQ:=h π₁ s₁ fl S₁ W₁ R₁
 cases fl with
 | next=>exact hQ
 | brk=>exact hQ
 | cont=>exact hQ
 | ret v=>exact hQ
theorem zw:Frag.In [] h:=fun a o e=>by cases e
theorem xF (ht:typeOf (.type T)=pure (.type "type")) (hs:Manifest.isStub T=false) (e:findCls [] (.type T) (.type "type") name=some (.val (.builtin b))) (hh:handedIn (.builtin b)=true):Gm G A σ (.type T) name (.builtin b) []:=fun π s v S hv pl Q E h=>by
 subst hv
 refine bn ?_
 have X:Frag.In [] s.heap:=zw
 have hstub:opaqueClassAbove (.type T)=pure none:=by unfold opaqueClassAbove;dsimp only;rw[hs];rfl
 have L0:Looks G.M s.heap (typeOf (.type T)) (.type "type"):=Looks.of_pure ht
 (refine bD (S.toks (X:=cG) (s.toks+1)) fun C' W'=>?_)
 unfold getMethod specialOf
 refine wpAny_bind (wpAny_bind (L0.here ((looks_findIn X type_tga).here ?_)))
 dsimp only
 rw[if_pos canon_tga]
 refine wpAny_bind (wpAny_mono (Q:=fun v=>Q (v,[])) (E:=E) ?_ (fun _ _ z=>wpAny_pure z) fun _ _ z=>z)
 have LO:Looks G.M s.heap (opaqueClassAbove (.type T)) none:=Looks.of_pure hstub
 refine cls_open X LO L0 type_tga (looks_hook X (r:=none) (by rfl)) (by show subIn [] _ _=_;rfl) e
  (wpAny_pure (by show wpAny _ _ (handedOut (.builtin b)) _ _ _;rw[handedOut_of hh];exact wpAny_pure (h _ _ _ C' W' rfl .nil)))
theorem qE:Gm G A σ (.type "Exception") "__init__" (.builtin "Exception.__init__") []:=xF (by rfl) (by kernel_rfl) (by kernel_rfl) (by kernel_rfl)
end
section
variable {G:Gd} {F:Fx} {A:Around} {lv lv' lv₁ lv₂:List (Str×AV)} {σ σ' σ₁ σ₂ σ₃:List AO} {π π':PM} {s s':Shared}
theorem gc:∀ts:List (Int×Int×Nat),TriplesOk (e8 π ts)
 | []=>trivial
 | t::ts=>by
  show TriplesOk ([rawInt t.1,rawInt t.2.1,.ref (π.a t.2.2)]++e8 π ts)
  exact gc ts
theorem tm {T k:Nat} (hT:σ[T]? = some (.tab P ts))
  (hdef:∀env,defaultsOf params env=([],[])) (hcl:∀ (env:Env) (f:Nat→Addr),env.cells=F.cl.map (fun p=>(p.1,f p.2))→closureFor scope env=pure (cl.map fun p=>(p.1,f p.2))) (hcl2:∀p∈cl,p.2 < σ.length)
  (hf:∀π:PM,codeAmong pos (e8 π ts)=some (.ref (π.a k))) (hk:k < σ.length) (hg0:F.env.globals=mainGlobals) (hg:G.g.Ns mainGlobals mg) (hcode:F.env.code = .ref c) (C:CodeHd G.g c P) (hb:G.g.BuiltinsAt mg P) :
  Ev G F lv σ (.Lambda params body scope pos) (.dyn σ.length) (σ++[.lam params body scope (F.env.qual ++ "<lambda>") cl k]):=fun π s S Q E h=>by
 (refine dA (S.c.rep.at_ T _ hT) fun h0 h1 h2=>?_)
 refine bn (kla_eval (hdef _) (kla_makeFunctionHit (mg:=mg) (ps:=(e8 π ts).toArray) (hcl _ _ S.cells.1) hg0 (hg.keeps S.c.keepg) hcode (C.keeps S.c.keepg) h1 (by simpa using gc ts) (by simpa using hf π) (hb.keeps S.c.keepg) fun ctv h' tk hk' hsz=>?_))
 (refine bD (S.c.keeps (X:=cG) (s':={ s with heap:=h',toks:=tk }) hk' rfl rfl) fun C₁ W₁=>?_)
 obtain⟨π',C',W',e1,_⟩:=C₁.alloc (X:=cG) (s':={ s with heap:=h'.push { cls := .type "function",data := .func (kla_fn "<lambda>" (F.env.qual ++ "<lambda>") params body scope (cl.map fun p=>(p.1,π.a p.2)) ((mg "__name__").getD .none) (.ref (π.a k)) ctv) },toks:=tk })
  (ao := .lam params body scope (F.env.qual ++ "<lambda>") cl k) h'.objs.size h'.objs.size bw (aC _) (aC _) (fun π' e e1 _=>by
   refine⟨ctv,(mg "__name__").getD .none,?_,Nat.lt_succ_of_lt hk,fun p hp=>Nat.lt_succ_of_lt (hcl2 p hp)⟩
   have e':cl.map (fun p=>(p.1,π'.a p.2))=cl.map (fun p=>(p.1,π.a p.2)):=List.map_congr_left fun p hp=>by rw[e.a _ (hcl2 p hp)]
   rw[e1,e',e.a _ hk];exact Heap.get?_push_size _ rfl) rfl rfl
 exact h π' _ _ C' (W₁.transN W') ⟨by simp,by rw[e1]⟩
theorem uQ (π:PM) (ts:List (Int×Int×Nat)) (t:Int×Int×Nat):e8 π (ts++[t])=e8 π ts++[rawInt t.1,rawInt t.2.1,.ref (π.a t.2.2)]:=by
 unfold e8;rw[List.flatMap_append];simp
theorem tj (hT:σ[T]? = some (.tab P ts))
  (hdef:∀env,defaultsOf params env=([],[])) (hcl:∀ (env:Env) (f:Nat→Addr),env.cells=F.cl.map (fun p=>(p.1,f p.2))→closureFor scope env=pure (cl.map fun p=>(p.1,f p.2))) (hcl2:∀p∈cl,p.2 < σ.length)
  (hf:∀π:PM,codeAmong pos (e8 π ts)=none) (hg0:F.env.globals=mainGlobals) (hg:G.g.Ns mainGlobals mg) (hgP:mainGlobals≠P) (hcode:F.env.code = .ref c) (C:CodeHd G.g c P) (hb:G.g.BuiltinsAt mg P) :
  Ev G F lv σ (.Lambda params body scope pos) (.dyn (σ.length+1)) (σ.set T (.tab P (ts++[((pos.line:Int),(pos.col:Int),σ.length)]))++[.code (F.env.qual ++ "<lambda>"),.lam params body scope (F.env.qual ++ "<lambda>") cl σ.length]):=fun π s S Q E h=>by
 (refine dA (S.c.rep.at_ T _ hT) fun h0 h1 h2=>?_)
 have hTlt:T < σ.length:=am hT
 refine bn (kla_eval (hdef _) (kla_makeFunction (mg:=mg) (ps:=(e8 π ts).toArray) (hcl _ _ S.cells.1) hg0 (hg.keeps S.c.keepg) hcode (C.keeps S.c.keepg) h1 (by simpa using gc ts) (by simpa using hf π) hgP (hb.keeps S.c.keepg) fun c' ctv h' tk hx hge hlt hrec htab=>?_))
 have hPlt:P < s.heap.objs.size:=Heap.lt_size h1
 have hcP:c'≠P:=Nat.ne_of_gt (Nat.lt_of_lt_of_le hPlt hge)
 let hm:Heap:=h'.update P fun _=>tabObj (e8 π ts).toArray
 have hmP:hm.get? P=some (tabObj (e8 π ts).toArray):=Heap.get?_update_self _ htab rfl
 have hmO:∀b,b≠P→hm.get? b=h'.get? b:=fun b hb=>Heap.get?_update_other _ _ (Ne.symm hb)
 have keep₁:∀b o,s.heap.get? b=some o→hm.get? b=some o:=fun b o e=>by
  by_cases hbP:b=P
  ·subst hbP;rw[h1] at e;cases e;exact hmP
  ·rw[hmO b hbP];exact hx b o hbP e
 have hnone:s.heap.get? c'=none:=Heap.get?_none_of_le hge
 obtain⟨π₁,C₁,W₁,e1,_⟩:=S.c.alloc (X:=cG) (s':={ s with heap:=hm,toks:=tk }) (ao := .code (F.env.qual ++ "<lambda>")) c' c' keep₁ hnone hnone (fun π' e e1 _=>by
  (refine jm hrec fun c₂ oc vs t q1 q2 q3=>?_;clear hrec)
  cases q1
  exact⟨c',oc,vs,t,by rw[e1],(hmO c' hcP).trans q2,q3⟩) rfl rfl
 have hfl:e8 π₁ ts=e8 π ts:=iU fun t ht=>W₁.ext.a _ (h2 t ht)
 have hT₁:(σ++[AO.code (F.env.qual ++ "<lambda>")])[T]? = some (.tab P ts):=ad hT
 obtain⟨C₂,W₂⟩:=C₁.update (X:=cG) (s':={ s with heap:=h',toks:=tk }) (o' := .tab P (ts++[((pos.line:Int),(pos.col:Int),σ.length)])) hT₁ rfl (fun b ob hb e=>by
  have hbP:b≠P:=fun q=>hb (by rw[q];simp[own,W₁.ext.a T hTlt,h0])
  rw[← hmO b hbP];exact e) ⟨(W₁.ext.a T hTlt).trans h0,by
   rw[uQ,hfl,e1]
   rw[htab]
   congr 2
   simp,fun t ht=>by
   rw[List.length_append,List.length_singleton]
   rcases List.mem_append.mp ht with ht | ht
   ·exact Nat.lt_succ_of_lt (h2 t ht)
   ·simp only[List.mem_singleton] at ht;subst ht;exact Nat.lt_succ_self _⟩ rfl rfl
 have es:(σ++[AO.code (F.env.qual ++ "<lambda>")]).set T (.tab P (ts++[((pos.line:Int),(pos.col:Int),σ.length)]))=σ.set T (.tab P (ts++[((pos.line:Int),(pos.col:Int),σ.length)]))++[.code (F.env.qual ++ "<lambda>")]:=List.set_append_left _ _ hTlt
 rw[es] at C₂ W₂
 have W₁₂:=W₁.transN W₂
 have len:(σ.set T (AO.tab P (ts++[((pos.line:Int),(pos.col:Int),σ.length)]))++[AO.code (F.env.qual ++ "<lambda>")]).length=σ.length+1:=by simp
 obtain⟨π',C',W',e3,_⟩:=C₂.alloc (X:=cG) (s':={ s with heap:=h'.push (kla_obj "<lambda>" (F.env.qual ++ "<lambda>") params body scope (cl.map fun p=>(p.1,π.a p.2)) ((mg "__name__").getD .none) c' ctv),toks:=tk })
  (ao := .lam params body scope (F.env.qual ++ "<lambda>") cl σ.length) h'.objs.size h'.objs.size bw (aC _) (aC _) (fun π' e e3 _=>by
   have ec:π'.a σ.length=c':=(e.a _ (by rw[len];exact Nat.lt_succ_self _)).trans e1
   have e':cl.map (fun p=>(p.1,π'.a p.2))=cl.map (fun p=>(p.1,π.a p.2)):=List.map_congr_left fun p hp=>by
    rw[e.a _ (by rw[len];exact Nat.lt_succ_of_lt (hcl2 p hp)),W₁.ext.a _ (hcl2 p hp)]
   refine⟨ctv,(mg "__name__").getD .none,?_,by rw[len];lia,fun p hp=>by rw[len];have:=hcl2 p hp;exact q1 1 0 1 2 this rfl⟩
   rw[e3,e',ec];exact Heap.get?_push_size _ rfl) rfl rfl
 rw[len] at e3
 have:=h π' { s with heap:=h'.push (kla_obj "<lambda>" (F.env.qual ++ "<lambda>") params body scope (cl.map fun p=>(p.1,π.a p.2)) ((mg "__name__").getD .none) c' ctv),toks:=tk } (.ref h'.objs.size) (by rw[List.append_assoc] at C';exact C') (by rw[List.append_assoc] at W';exact W₁₂.transN W') ⟨by simp,by rw[e3]⟩
 exact this
structure LamOk (scope:Scope) (cs gs:List Str):Prop where
 kind:scope.kind = .function
 co:scope.isCoroutine=false
 gen:scope.isGenerator=false
 cell:(cs.all fun x=>scope.names.lookup x==some .free)=true
 glob:(gs.all fun x=>scope.names.lookup x==some .globalImplicit)=true
 nocell:(scope.names.all fun x=>x.2 != .cell)=true
theorem mE (hi:σ[i]? = some (.lam params body scope qual cl k)) (hk:σ[k]? = some (.code qual)) (lim:G.g.NoLimit) (R:Rm A (n+1)) (K:LamOk scope cs gs)
  (hbind:∀clos pm cv ctv,bindArgs (kla_fn "<lambda>" qual params body scope clos pm cv ctv) ⟨[],[]⟩=pure []) (S:StC G.g A σ π s)
  (h:∀ (F:Fx) (L:Addr) s₁,Sc F [] cs gs→Fm F→F.cl=cl→Rm F.A n→St G F [] σ π s₁→F.env.frame=some L→F.env.locals=L→s.heap.get? L=none→F.A=A.deeper F.env→(∀b o,s.heap.get? b=some o→s₁.heap.get? b=some o)→s₁.os=s.os→s₁.gens=s.gens →
   aS G.M F.A (eval body F.env) (fun v s'=>Rr (.ok (.ret v)) s') (fun e' s'=>aS G.M F.A (leaving F.env e') (fun _ s''=>Rr (.error e') s'') (fun e'' s''=>Rr (.error e'') s'') s') s₁) :
  cS G.M A (.call (.ref (π.a i)) ⟨[],[]⟩) Rr s:=by
 (refine cy (S.rep.at_ i _ hi) fun ctv pm ho hklt hcl=>?_)
 have hcd:=S.rep.at_ k _ hk
 have hcell:∀x∈scope.names,x.2 ≠ .cell:=fun x hx=>by have:=List.all_eq_true.mp K.nocell x hx;simpa using this
 refine fN R.room ho rfl hcd (.inr ⟨body,rfl,rfl⟩) K.co K.gen ?_
 rw[hbind]
 refine ak (bn (wpAny_newFunctionEnv hcell (fun x hx=>by cases hx) (fun h₁ hns hsb=>⟨?_,?_⟩) K.kind))
 ·(refine aF lim fun mc p q=>?_;clear lim)
  exact Heap.NoLimit.fresh ⟨mc,p.keeps S.keepg,q⟩ _ hsb
 show cS _ _ (.expr body (envX qual scope s.heap.objs.size (π.a i) (.ref (π.a k)) (cl.map fun p=>(p.1,π.a p.2)))) _ _
 have hk₀:∀b o,s.heap.get? b=some o→h₁.get? b=some o:=fun b o e=>hsb.extBut b o (Nat.ne_of_lt (Heap.lt_size e)) (Heap.get?_push_of_some _ e)
 have hL:s.heap.get? s.heap.objs.size=none:=aC _
 (refine bD (S.keeps (X:=cG) (s':={ s with heap:=h₁,toks:=s.toks+0 }) hk₀ rfl rfl) fun C₁ W₁=>?_)
 (refine aF (C₁.frs) fun fs f1 f2=>?_)
 have hgL:G.g.get? s.heap.objs.size=none:=by
  cases q:G.g.get? s.heap.objs.size with
  | none=>rfl
  | some o=>have:=S.keepg _ _ q;rw[hL] at this;cases this
 have htL:¬Tr π σ s.heap.objs.size:=fun t=>by
  (refine b8 (S.rep.there t) fun ob hob=>?_)
  rw[hL] at hob;cases hob
 let env:Env:=envX qual scope s.heap.objs.size (π.a i) (.ref (π.a k)) (cl.map fun p=>(p.1,π.a p.2))
 have hfr:(A.deeper env).frames=some (env::fs):=by show (A.frames.map _)=_;rw[f1];rfl
 have S0:St G ⟨A.deeper env,env,cl⟩ [] σ π { s with heap:=h₁,toks:=s.toks+0 }:=by
  refine⟨⟨C₁.keepg,C₁.rep,env::fs,hfr,fun g hg=>?_⟩,⟨_,hns,fun x=>rfl⟩,hgL,htL,rfl,hcl⟩
  rcases List.mem_cons.mp hg with rfl | hg
  ·(refine cQ hns fun o' es ep g1 g2 _=>?_;clear hns)
   exact⟨by show scope.kind≠_;rw[K.kind];decide,_,o',rfl,g1,(fun vs q=>by rw[g2] at q;cases q),hgL,htL⟩
  ·exact f2 g hg
 have SC:Sc ⟨A.deeper env,env,cl⟩ [] cs gs:=by
  refine⟨K.kind,fun x hx=>by simp at hx,fun x hx => .inr ?_,fun x hx=>?_,rfl,rfl⟩
  ·have:=List.all_eq_true.mp K.cell x (by simpa using hx)
   show scope.names.lookup x=_;simpa using this
  ·have:=List.all_eq_true.mp K.glob x (by simpa using hx)
   show scope.names.lookup x=_;simpa using this
 exact qn (h ⟨A.deeper env,env,cl⟩ s.heap.objs.size _ SC ⟨⟨A,rfl⟩,⟨_,rfl⟩⟩ rfl R.deeper S0 rfl rfl hL rfl hk₀ rfl rfl)
theorem xC (hi:σ[i]? = some (.lam params body scope qual cl k)):nZ G A σ (.dyn i):=fun π s v S hv=>by
 (refine bD hv fun _ zz17=>?_;clear hv;subst zz17)
 (refine ci (S.rep.at_ i _ hi) fun ctv pm h1 _=>?_)
 refine⟨.frame,fun M A Q E h=>?_⟩
 unfold keeperOf
 refine wpAny_bind (wpAny_load h1 ?_)
 exact wpAny_pure h
theorem zZ (hi:σ[i]? = some (.lam params body scope qual cl k)) (hk:σ[k]? = some (.code qual)) (lim:G.g.NoLimit) (R:Rm A (n+1)) (K:LamOk scope cs gs)
  (hbind:∀clos pm cv ctv,bindArgs (kla_fn "<lambda>" qual params body scope clos pm cv ctv) ⟨[],[]⟩=pure []) (h:∀F:Fx,Sc F [] cs gs→Fm F→F.cl=cl→Rm F.A n→Ev G F [] σ body r σ'):Cl G A σ (.dyn i) [] r σ':=fun π s fv vs S hf hv Q E hq=>by
 (refine bD hf fun _ zz20=>?_;clear hf;subst zz20)
 cases hv
 refine dk (mE hi hk lim R K hbind S fun F L s₁ SC FM hcl R' S₁ hfr hlo hL hA hk₀ os gens=>?_)
 refine h F SC FM hcl R' π s₁ S₁ _ _ fun π' s' v C' W' R''=>?_
 rw[hA] at C' W'
 (refine bD (gf (A:=A) (s₁:=s₁) (X:=cG) hfr S hk₀ hL os gens C' W' (fun b hb=>hb.elim)) fun B1 B2=>?_)
 exact hq π' s' v B1 B2 R''
theorem yj (hi:σ[i]? = some (.lam params body scope qual cl k)) (hk:σ[k]? = some (.code qual)) (lim:G.g.NoLimit) (R:Rm A (n+1)) (K:LamOk scope cs gs)
  (hbind:∀clos pm cv ctv,bindArgs (kla_fn "<lambda>" qual params body scope clos pm cv ctv) ⟨[],[]⟩=pure []) (he:σ'[e]? = some (.exc C j false)) (h:∀F:Fx,Sc F [] cs gs→Fm F→F.cl=cl→Rm F.A n→zM G F [] σ body e σ'):yk G A σ (.dyn i) [] e σ':=fun π s fv vs S hf hv Q E hq=>by
 (refine bD hf fun _ zz21=>?_;clear hf;subst zz21)
 cases hv
 refine dk (mE hi hk lim R K hbind S fun F L s₁ SC FM hcl R' S₁ hfr hlo hL hA hk₀ os gens=>?_)
 refine h F SC FM hcl R' π s₁ S₁ _ _ fun π' s' C' W' R''=>?_
 (refine aF (S.frs) fun fs f1 _=>?_)
 have hfr':F.A.frames=some (F.env::fs):=by rw[hA];show A.frames.map _=_;rw[f1];rfl
 unfold leaving
 refine ae (xj (h₀:=s₁.heap) C' hfr' hfr he R'' (W'.back C') fun s'' S'' ⟨X,hX,W''⟩ R₂=>?_)
 have WW:Fwd F.A cG σ π s₁ σ' π' s'':=W'.absorb W'' hX fun b hb=>hb.elim
 rw[hA] at S'' WW
 (refine bD (gf (A:=A) (s₁:=s₁) (X:=cG) hfr S hk₀ hL os gens S'' WW (fun b hb=>hb.elim)) fun B1 B2=>?_)
 exact hq π' s'' B1 B2 (R₂.older (cZ fun b o e=>⟨o,hk₀ b o e⟩))
end
section
variable {G:Gd} {F:Fx} {A:Around} {lv lv' lv₁ lv₂:List (Str×AV)} {σ σ' σ₁ σ₂ σ₃:List AO} {π π':PM} {s s':Shared} {a b:Int}
theorem gu:fy G A σ (binaryOp .BitAnd) (.int a) (.int b) (.int (Builtin.bitAnd a b)) σ:=da fun _ _ _ _ _ q=>PyProof.Rows.and_int q
theorem zp (h:0≤b):fy G A σ (binaryOp .RShift) (.int a) (.int b) (.int (a.fdiv (2 ^ b.toNat))) σ:=da fun _ _ _ _ _ q=>PyProof.Rows.rshift_int h q
theorem zq (h:0≤b) (h2:b≤1000000) (ha:a.natAbs < 2 ^ 64):fy G A σ (binaryOp .LShift) (.int a) (.int b) (.int (a*2 ^ b.toNat)) σ:=da fun _ _ _ _ _ q=>PyProof.Rows.lshift_int_small h h2 ha q
theorem Br:fy G A σ (compareOp .GtE) (.int a) (.int b) (.bool (decide (b≤a))) σ:=eH fun _ _ _ _ _ q=>PyProof.Rows.ge_int q
theorem vr:wJ G A σ (unaryOp .USub) (.int a) (.int (-a)) σ:=fun π s v S hv Q E hq=>by
 (refine b8 hv fun x zz1=>?_;clear hv;subst zz1)
 (refine bD (S.toks (X:=cG) (s.toks+1)) fun C W=>?_)
 exact bn (PyProof.Rows.neg_int (hq π _ _ C W ⟨_,rfl⟩))
theorem jP:fy G A σ (compareOp .Eq) (.str x) (.str y) (.bool (x==y)) σ:=fun π s v u S hv hu Q E hq=>by
 (refine b8 hv fun _ zz2=>?_;clear hv;subst zz2)
 (refine b8 hu fun _ zz3=>?_;clear hu;subst zz3)
 exact bn (PyProof.Rows.eq_str (hq π _ _ S S.same rfl))
theorem wv:Cl G A σ (.type "range") [.int n] (.dyn σ.length) (σ++[.rng 0 n]):=fun π s fv vs S hf hv Q E hq=>by
 subst hf
 cases hv with
 | cons hx hr =>
  cases hr
  (refine b8 hx fun t zz4=>?_;clear hx;subst zz4)
  refine bn (call_range_1 ?_)
  obtain⟨π',C',W',e1,_⟩:=S.alloc (X:=cG) (s':={ s with heap:=s.heap.push { cls := .type "range",data := .fields #[.int 0 s.toks,.int n t,.int 1 (s.toks+1)] },toks:=s.toks+1+1 }) (ao := .rng 0 n) s.heap.objs.size s.heap.objs.size bw (aC _) (aC _)
   (fun π' e e1 _=>⟨s.toks,t,s.toks+1,by rw[e1];exact IsRange.new _ _ _ _ _ _ _⟩) rfl rfl
  exact hq π' _ _ C' W' ⟨by simp,by rw[e1]⟩
theorem f7 (hh:A.handled=none) (hi:σ[i]? = some (.rng 0 n)) (hn:n < 2 ^ 62) (hn' : -(2 ^ 62)≤n):vA G A σ (.dyn i) ((List.range n.toNat).map fun(j:Nat)=>AV.int (j:Int)) (fun _=>True):=fun π s v S hv Q E h=>by
 (refine bD hv fun hlt zz5=>?_;clear hv;subst zz5)
 (refine o6 (S.rep.at_ i _ hi) fun t u w hr=>?_)
 refine bn (wpAny_pyIter_range hr (small_one (by decide) (by decide) hn' hn) ?_)
 have hsz:Builtin.Range.rangeSize 0 n 1=(n.toNat:Int):=by
  rw[rangeSize_one];split<;>lia
 rw[hsz]
 (refine bD (S.keeps (X:=cG) (s':={ s with heap:=s.heap.push { cls := .type "range_iterator",data := .fields #[rawInt 0,rawInt (n.toNat:Int),rawInt 1] } }) bw rfl rfl) fun C W=>?_)
 refine h s.heap.objs.size _ (fun k h=>IsRangeIter h s.heap.objs.size (k:Int) ((n.toNat:Int) - (k:Int)) 1) C W (aC _) ⟨_,Heap.get?_push_size _ rfl⟩ (by show IsRangeIter _ _ _ _ _;simpa using Heap.get?_push_size _ rfl) ⟨?_,?_,?_,fun k s P A Q E h=>bn (wpAny_pyIter_rangeiter P h),fun k s P A t v Q E h=>nr P rfl (by decide) h⟩
 ·intro k h h' P e
  exact e.trans P
 ·intro k a π' σ' s' ha _ he hn'' S' B' P' Q' E' h'
  obtain⟨hk,rfl⟩:k < n.toNat∧a = .int (k:Int):=by
   have:=(List.getElem?_eq_some_iff.mp ha)
   (refine b8 this fun h1 h2=>?_;clear this)
   simp only[List.length_map,List.length_range] at h1
   refine⟨h1,?_⟩
   rw[← h2];simp
  refine bn (wpAny_pyNext_range_item P' (jk (Int.ofNat_lt.mpr hk)) fun h'' hit hsb=>?_)
  (refine bD (S'.beside (X:=(·=s.heap.objs.size)) (s':={ s' with heap:=h'',toks:=s'.toks+1 }) B' (fun b o hb e=>(hsb.2 b hb).trans e) rfl rfl rfl) fun C' W'=>?_)
  refine h' _ _ C' W' ?_ ⟨_,hit⟩ ⟨_,rfl⟩
  show IsRangeIter _ _ _ _ _
  have e1:((k+1:Nat):Int)=(k:Int)+1:=rfl
  have e2:(n.toNat:Int) - ((k+1:Nat):Int)=(n.toNat:Int) - (k:Int) - 1:=Int.le_antisymm (A2 (by simp +arith only[Int.natCast_add,Int.cast_ofNat_Int])) (A2 (by simp +arith only[Int.natCast_add,Int.cast_ofNat_Int]))
  rw[e2,e1];exact hit
 ·intro k π' σ' s' hk _ _ he hn'' S' B' P' Q' E' h'
  simp only[List.length_map,List.length_range] at hk
  refine bn (wpAny_pyNext_range_end hh P' (jk (Int.ofNat_le.mpr hk)) fun h'' hsb=>?_)
  (refine bD (S'.beside (X:=(·=s.heap.objs.size)) (s':={ s' with heap:=h'' }) B' (fun b o hb e=>hsb b o hb e) rfl rfl rfl) fun C' W'=>?_)
  exact h' _ C' W'
end
section
variable {G:Gd} {lv lv' lv₁ lv₂:LV} {σ σ' σ₁ σ₂ σ₃:LA}
structure Cx where
 ls:List Str
 cs:List Str
 gs:List Str
 cl:List (Str×Nat)
 n:Option Nat
 code:Option Value
 qual:Str
 own:Bool:=false
structure Cx.Ok (C:Cx) (F:Fx):Prop where
 sc:Sc F C.ls C.cs C.gs
 fm:Fm F
 cl:F.cl=C.cl
 rm:∀n,C.n=some n→Rm F.A n
 code:∀c,C.code=some c→F.env.code=c∧F.env.qual=C.qual
 own:C.own=true→∀x,C.cs.contains x=true→F.env.kindOf x=some .cell
theorem Cx.Ok.nh {C:Cx} {n:Nat} (x:C.Ok F) (h:C.n=some n):F.A.handled=none:=(x.rm n h).handled
noncomputable abbrev Cx.inH (C:Cx):Cx:={ C with n:=none }
theorem Cx.Ok.mark {C:Cx} (x:C.Ok F) (h:Option Value):C.inH.Ok (F.mark h):=⟨x.sc.mark,⟨let ⟨A₀,h1⟩:=x.fm.fr;⟨A₀,h1⟩,x.fm.own⟩,x.cl,(fun n h=>by cases h),x.code,x.own⟩
section
variable {C:Cx}
def cW (G:Gd) (C:Cx) (lv:LV) (σ:LA) (e:Expr) (K:KA):Prop:=∃r σ',(∀F,C.Ok F→Ev G F lv σ e r σ')∧K r σ'
def gC (G:Gd) (C:Cx) (lv:LV) (σ:LA) (es:List Expr) (K:List AV→LA→Prop):Prop:=∃r σ',(∀F,C.Ok F→tR G F lv σ es r σ')∧K r σ'
def wI (G:Gd) (C:Cx) (lv:LV) (σ:LA) (e:Expr) (K:KZ):Prop:=∃r σ',(∀F,C.Ok F→Ts G F lv σ e r σ')∧K r σ'
def sO (G:Gd) (C:Cx) (lv:LV) (σ:LA) (op:BoolOp) (es:List Expr) (K:KZ):Prop:=∃r σ',(∀F,C.Ok F→xA G F lv σ op es r σ')∧K r σ'
def tA (G:Gd) (C:Cx) (lv:LV) (σ:LA) (op:BoolOp) (es:List Expr) (K:KA):Prop:=∃r σ',(∀F,C.Ok F→wK G F lv σ op es r σ')∧K r σ'
def fH (G:Gd) (C:Cx) (lv:LV) (σ:LA) (t:Expr) (a:AV) (K:KV):Prop:=∃lv' σ',(∀F,C.Ok F→As G F lv σ t a lv' σ')∧K lv' σ'
def qW (G:Gd) (C:Cx) (lv:LV) (σ:LA) (ts:List Expr) (as:List AV) (K:KV):Prop:=∃lv' σ',(∀F,C.Ok F→Al G F lv σ ts as lv' σ')∧K lv' σ'
def qA (G:Gd) (C:Cx) (σ:LA) (t:Value→Sem Value) (a:AV) (K:KA):Prop:=∃r σ',(∀F,C.Ok F→wJ G F.A σ t a r σ')∧K r σ'
def ib (G:Gd) (C:Cx) (σ:LA) (t:Value→Value→Sem Value) (a b:AV) (K:KA):Prop:=∃r σ',(∀F,C.Ok F→fy G F.A σ t a b r σ')∧K r σ'
def lj (G:Gd) (C:Cx) (σ:LA) (sl:Expr) (a b:AV) (K:KA):Prop:=∃r σ',(∀F,C.Ok F→Sub G F.A σ sl a b r σ')∧K r σ'
def jT (G:Gd) (C:Cx) (σ:LA) (t:Value→Value→Value→Sem Unit) (a b c:AV) (K:LA→Prop):Prop:=∃σ',(∀F,C.Ok F→tC G F.A σ t a b c σ')∧K σ'
def vl (G:Gd) (C:Cx) (σ:LA) (a:AV) (K:KZ):Prop:=∃r σ',(∀F,C.Ok F→xy G F.A σ a r σ')∧K r σ'
def pC (G:Gd) (C:Cx) (σ:LA) (o:AV) (name:Str) (K:AV→List AV→Prop):Prop:=∃f first,(∀F,C.Ok F→Gm G F.A σ o name f first)∧K f first
def nX (G:Gd) (C:Cx) (σ:LA) (f:AV):Prop:=∀F,C.Ok F→nZ G F.A σ f
def Ak (σ:LA) (i:Nat):Prop:=∃D j,σ[i]? = some (.exc D j false)
def kd (G:Gd) (C:Cx) (σ:LA) (f:AV) (as:List AV) (K:KA):Prop:=∃r σ',(∀F,C.Ok F→Cl G F.A σ f as r σ')∧K r σ'
def wx (G:Gd) (C:Cx) (σ:LA) (f:AV) (as:List AV) (K:KA) (X:KN):Prop:=kd G C σ f as K∨∃i σ',(∀F,C.Ok F→yk G F.A σ f as i σ')∧Ak σ' i∧X i σ'
def lC (G:Gd) (C:Cx) (lv:LV) (σ:LA) (e:Expr) (K:KA) (X:KN):Prop:=cW G C lv σ e K∨∃i σ',(∀F,C.Ok F→zM G F lv σ e i σ')∧Ak σ' i∧X i σ'
def jS (G:Gd) (C:Cx) (lv:LV) (σ:LA) (st:Stmt) (K:KF) (X:KX):Prop :=
 (∃f lv' σ',(∀F,C.Ok F→ou G F lv σ st f lv' σ')∧K f lv' σ')∨∃i lv' σ',(∀F,C.Ok F→qI G F lv σ st i lv' σ')∧Ak σ' i∧X i lv' σ'
def eQ (G:Gd) (C:Cx) (lv:LV) (σ:LA) (st:List Stmt) (K:KF) (X:KX):Prop :=
 (∃f lv' σ',(∀F,C.Ok F→Ex G F lv σ st f lv' σ')∧K f lv' σ')∨∃i lv' σ',(∀F,C.Ok F→xJ G F lv σ st i lv' σ')∧Ak σ' i∧X i lv' σ'
end
abbrev BM (G:Gd) (C:Cx) (t:Value→Value→Sem Value) (K:KA) (a:AV):KA:=fun b σ₂=>ib G C σ₂ t a b K
abbrev BN (G:Gd) (C:Cx) (lv:LV) (t:Value→Value→Sem Value) (r:Expr) (K:KA):KA:=fun a σ₁=>cW G C lv σ₁ r (BM G C t K a)
abbrev Dj (G:Gd) (C:Cx) (t:Value→Sem Value) (K:KA):KA:=fun a σ₁=>qA G C σ₁ t a K
abbrev DE (K:KA):List AV→LA→Prop:=fun vs σ₁=>vs.length≤sizeLine∧K (.dyn σ₁.length) (σ₁++[.list vs])
abbrev Dv (K:KA):List AV→LA→Prop:=fun vs σ₁=>vs.length≤sizeLine∧K (.dyn σ₁.length) (σ₁++[.tuple vs])
abbrev Dy (G:Gd) (C:Cx) (i:Expr) (K:KA) (a:AV):KA:=fun b σ₂=>lj G C σ₂ i a b K
abbrev Dz (G:Gd) (C:Cx) (lv:LV) (i:Expr) (K:KA):KA:=fun a σ₁=>cW G C lv σ₁ i (Dy G C i K a)
abbrev DG (G:Gd) (C:Cx) (lv:LV) (a b:Expr) (K:KA):KZ:=fun c σ₁=>cond c (cW G C lv σ₁ a K) (cW G C lv σ₁ b K)
abbrev kT (G:Gd) (C:Cx) (K:KZ):KA:=fun v σ₃=>vl G C σ₃ v K
abbrev kN (K:KZ):KZ:=fun t σ₁=>K (!t) σ₁
abbrev Dx (G:Gd) (C:Cx) (lv:LV) (es:List Expr) (K:KZ):KZ:=fun t σ₁=>cond t (sO G C lv σ₁ .And es K) (K false σ₁)
abbrev Dw (G:Gd) (C:Cx) (lv:LV) (es:List Expr) (K:KZ):KZ:=fun t σ₁=>cond t (K true σ₁) (sO G C lv σ₁ .Or es K)
abbrev BL (K:List AV→LA→Prop) (v:AV):List AV→LA→Prop:=fun vs σ₂=>K (v::vs) σ₂
abbrev DF (G:Gd) (C:Cx) (lv:LV) (es:List Expr) (K:List AV→LA→Prop):KA:=fun v σ₁=>gC G C lv σ₁ es (BL K v)
abbrev CK (G:Gd) (C:Cx) (K:KA) (fv:AV):List AV→LA→Prop:=fun as σ₂=>nX G C σ₂ fv∧kd G C σ₂ fv as K
abbrev DH (G:Gd) (C:Cx) (lv:LV) (args:List Expr) (K:KA):KA:=fun fv σ₁=>gC G C lv σ₁ args (CK G C K fv)
abbrev DA (G:Gd) (C:Cx) (K:KA) (fv:AV) (first:List AV):List AV→LA→Prop:=fun as σ₂=>nX G C σ₂ fv∧kd G C σ₂ fv (first++as) K
abbrev DB (G:Gd) (C:Cx) (lv:LV) (args:List Expr) (K:KA) (σ₁:LA):AV→List AV→Prop:=fun fv first=>gC G C lv σ₁ args (DA G C K fv first)
abbrev DC (G:Gd) (C:Cx) (lv:LV) (name:Str) (args:List Expr) (K:KA):KA:=fun ov σ₁=>pC G C σ₁ ov name (DB G C lv args K σ₁)
abbrev Dh (G:Gd) (C:Cx) (K:KA) (X:KN) (fv:AV):List AV→LA→Prop:=fun as σ₂=>nX G C σ₂ fv∧wx G C σ₂ fv as K X
abbrev Dr (G:Gd) (C:Cx) (lv:LV) (args:List Expr) (K:KA) (X:KN):KA:=fun fv σ₁=>gC G C lv σ₁ args (Dh G C K X fv)
abbrev Do (G:Gd) (C:Cx) (K:KA) (X:KN) (fv:AV) (first:List AV):List AV→LA→Prop:=fun as σ₂=>nX G C σ₂ fv∧wx G C σ₂ fv (first++as) K X
abbrev Dp (G:Gd) (C:Cx) (lv:LV) (args:List Expr) (K:KA) (X:KN) (σ₁:LA):AV→List AV→Prop:=fun fv first=>gC G C lv σ₁ args (Do G C K X fv first)
abbrev Dq (G:Gd) (C:Cx) (lv:LV) (name:Str) (args:List Expr) (K:KA) (X:KN):KA:=fun ov σ₁=>pC G C σ₁ ov name (Dp G C lv args K X σ₁)
abbrev Ds (G:Gd) (C:Cx) (lv:LV) (x:Str) (a:AV) (K:KV):KA:=fun b σ₁=>jT G C σ₁ (fun o _ v=>setAttr o x v) b .none a (K lv)
abbrev Dt (G:Gd) (C:Cx) (lv:LV) (a:AV) (K:KV) (b:AV):KA:=fun c σ₂=>jT G C σ₂ setItem b c a (K lv)
abbrev Du (G:Gd) (C:Cx) (lv:LV) (i:Expr) (a:AV) (K:KV):KA:=fun b σ₁=>cW G C lv σ₁ i (Dt G C lv a K b)
abbrev DI (G:Gd) (C:Cx) (es:List Expr) (as:List AV) (K:KV):KV:=fun lv₁ σ₁=>qW G C lv₁ σ₁ es as K
abbrev CJ (G:Gd) (C:Cx) (lv:LV) (t:Expr) (K:KF):KA:=fun a σ₁=>fH G C lv σ₁ t a (K .next)
abbrev Ae (lv:LV) (X:KX):KN:=fun i σ₁=>X i lv σ₁
abbrev Di (lv:LV) (K:KF):KA:=fun _ σ₁=>K .next lv σ₁
abbrev CI (lv:LV) (K:KF):KA:=fun a σ₁=>K (.ret a) lv σ₁
abbrev kI (G:Gd) (C:Cx) (lv:LV) (b o:List Stmt) (K:KF) (X:KX):KZ:=fun c σ₁=>cond c (eQ G C lv σ₁ b K X) (eQ G C lv σ₁ o K X)
section
variable {C:Cx} {K:KA} {X:KN}
theorem bf (h:K (.int i) σ):cW G C lv σ (.Constant (.int i) k pos) K:=⟨_,_,fun _ _=>zE,h⟩
theorem cB (h:K (.str x) σ):cW G C lv σ (.Constant (.str x) k pos) K:=⟨_,_,fun _ _=>vR,h⟩
theorem et (h:K (.bool x) σ):cW G C lv σ (.Constant (.bool x) k pos) K:=⟨_,_,fun _ _=>xV,h⟩
theorem dO (h:K .none σ):cW G C lv σ (.Constant .none k pos) K:=⟨_,_,fun _ _=>xR,h⟩
theorem iA (h:C.ls.contains (Str.ofString x)=true) (hv:lv.lookup (Str.ofString x)=some a) (hu:a ≠ .unk) (hd:x ≠ "__debug__") (k:K a σ):cW G C lv σ (.Name (Str.ofString x) pos) K :=
 ⟨_,_,fun _ c=>iZ c.sc h hv hu hd,k⟩
theorem ya (h:C.cs.contains (Str.ofString x)=true) (hi:C.cl.lookup (Str.ofString x)=some i) (hv:σ[i]? = some (.cell (some a))) (hd:x ≠ "__debug__") (hn:x ≠ "__classdict__") (k:K a σ):cW G C lv σ (.Name (Str.ofString x) pos) K :=
 ⟨_,_,fun _ c=>zJ c.sc h (by rw[c.cl];exact hi) hv hd hn,k⟩
theorem xZ (B:Bs G gt bt) (h:C.gs.contains (Str.ofString x)=true) (hv:gt.lookup (Str.ofString x)=some a) (hd:x ≠ "__debug__") (k:K a σ):cW G C lv σ (.Name (Str.ofString x) pos) K :=
 ⟨_,_,fun _ c=>zH c.sc B h hv hd,k⟩
theorem yb (B:Bs G gt bt) (h:C.gs.contains (Str.ofString x)=true) (hv:bt.lookup (Str.ofString x)=some a) (hd:x ≠ "__debug__") (k:K a σ):cW G C lv σ (.Name (Str.ofString x) pos) K :=
 ⟨_,_,fun _ c=>vZ c.sc B h hv hd,k⟩
theorem aG (h:cW G C lv σ l (BN G C lv (binaryOp op) r K)):cW G C lv σ (.BinOp l op r pos) K:=by
 (refine fE h fun a σ₁ x b σ₂ y v σ₃ z k=>?_;clear h)
 exact⟨v,σ₃,fun F c=>zL (x F c) (y F c) (z F c),k⟩
theorem gy (h:cW G C lv σ l (BN G C lv (compareOp op) r K)) (hm:behindInMarks op r=false:=by with_unfolding_all rfl):cW G C lv σ (.Compare l [op] [r] pos) K:=by
 (refine fE h fun a σ₁ x b σ₂ y v σ₃ z k=>?_;clear h)
 exact⟨v,σ₃,fun F c=>zI (x F c) (y F c) (z F c) hm,k⟩
theorem oa (h:cW G C lv σ e (Dj G C (unaryOp op) K)):cW G C lv σ (.UnaryOp op e pos) K:=by
 (refine dK h fun a σ₁ x v σ₃ z k=>?_;clear h)
 exact⟨v,σ₃,fun F c=>Bw (x F c) (z F c),k⟩
theorem aP (h:gC G C lv σ es (DE K)):cW G C lv σ (.List es pos) K:=by
 (refine cy h fun a σ₁ x hn k=>?_;clear h)
 exact⟨_,_,fun F c=>xS (x F c) hn,k⟩
theorem b9 (h:gC G C lv σ es (Dv K)):cW G C lv σ (.Tuple es k' pos) K:=by
 (refine cy h fun a σ₁ x hn k=>?_;clear h)
 exact⟨_,_,fun F c=>vQ (x F c) hn,k⟩
theorem bg (h:cW G C lv σ e (Dz G C lv i K)):cW G C lv σ (.Subscript e i pos) K:=by
 (refine fE h fun a σ₁ x b σ₂ y v σ₃ z k=>?_;clear h)
 exact⟨v,σ₃,fun F c=>zB (x F c) (y F c) (z F c),k⟩
theorem aH (h:cW G C lv σ e (Dj G C (fun o=>getAttr o x true) K))
  (he:∀env,eval (.Attribute e x pos) env=(do
   let o←eval e env
   standAt pos.atName
   let r←holding [o] (getAttr o x true)
   letTemporaryGo e o r
   pure r):=by intro _;with_unfolding_all rfl):cW G C lv σ (.Attribute e x pos) K:=by
 (refine dK h fun a σ₁ y v σ₃ z k=>?_;clear h)
 exact⟨v,σ₃,fun F c=>xW (y F c) (z F c) he,k⟩
theorem eM (h:wI G C lv σ t (DG G C lv a b K)):cW G C lv σ (.IfExp t a b pos) K:=by
 (refine ci h fun c σ₁ x y=>?_;clear h)
 cases c
 ·(refine ci y fun v σ₂ y k=>?_);exact⟨v,σ₂,fun F c=>zG (x F c) (y F c),k⟩
 ·(refine ci y fun v σ₂ y k=>?_);exact⟨v,σ₂,fun F c=>zF (x F c) (y F c),k⟩
theorem gz (h:tA G C lv σ op es K):cW G C lv σ (.BoolOp op es pos) K:=by
 (refine ci h fun v σ₁ x k=>?_;clear h)
 exact⟨v,σ₁,fun F c=>tn (x F c),k⟩
theorem lF (h:cW G C lv σ e K):tA G C lv σ op [e] K:=by
 (refine ci h fun v σ₁ x k=>?_;clear h)
 exact⟨v,σ₁,fun F c=>yc (x F c),k⟩
theorem pH (h:cW G C lv σ e fun v σ₁=>vl G C σ₁ v fun t σ₂=>cond t (tA G C lv σ₂ .And (e'::es) K) (K v σ₂)):tA G C lv σ .And (e::e'::es) K:=by
 (refine dK h fun v σ₁ x t σ₂ y z=>?_;clear h)
 cases t
 ·exact⟨v,σ₂,fun F c=>rD (t:=false) (x F c) (y F c) ⟨rfl,rfl⟩,z⟩
 ·(refine ci z fun w σ₃ z k=>?_);exact⟨w,σ₃,fun F c=>rD (t:=true) (x F c) (y F c) (z F c),k⟩
theorem rE (h:cW G C lv σ e fun v σ₁=>vl G C σ₁ v fun t σ₂=>cond t (K v σ₂) (tA G C lv σ₂ .Or (e'::es) K)):tA G C lv σ .Or (e::e'::es) K:=by
 (refine dK h fun v σ₁ x t σ₂ y z=>?_;clear h)
 cases t
 ·(refine ci z fun w σ₃ z k=>?_);exact⟨w,σ₃,fun F c=>we (t:=false) (x F c) (y F c) (z F c),k⟩
 ·exact⟨v,σ₂,fun F c=>we (t:=true) (x F c) (y F c) ⟨rfl,rfl⟩,z⟩
theorem aY {K:KZ} (h:cW G C lv σ l (BN G C lv (compareOp op) r (kT G C K))) (hm:behindInMarks op r=false:=by with_unfolding_all rfl):wI G C lv σ (.Compare l [op] [r] pos) K:=by
 (refine k7 h fun a σ₁ x b σ₂ y v σ₃ z t σ₄ u k=>?_;clear h)
 exact⟨t,σ₄,fun F c=>zo (x F c) (y F c) (z F c) (u F c) hm,k⟩
theorem eg {K:KZ} (h:wI G C lv σ e (kN K)):wI G C lv σ (.UnaryOp .Not e pos) K:=by
 (refine ci h fun t σ₁ x k=>?_;clear h)
 exact⟨_,σ₁,fun F c=>zn (x F c),k⟩
theorem cr {K:KZ} (h:cW G C lv σ e (kT G C K)) (he:∀env whole,isTrue e env whole=(do let v←whole;standAt e.pos;holding [v] (truthy v)):=by intro _ _;rfl):wI G C lv σ e K:=by
 (refine dK h fun v σ₁ x t σ₂ u k=>?_;clear h)
 exact⟨t,σ₂,fun F c=>zm (x F c) (u F c) he,k⟩
theorem b6 {K:KZ} (h:sO G C lv σ op es K):wI G C lv σ (.BoolOp op es pos) K:=by
 (refine ci h fun t σ₁ x k=>?_;clear h)
 exact⟨t,σ₁,fun F c=>xz (x F c),k⟩
theorem cz {K:KZ} (k:K false σ):sO G C lv σ .Or [] K:=⟨false,σ,fun _ _=>qt,k⟩
theorem jt {K:KZ} (h:wI G C lv σ e (Dx G C lv es K)):sO G C lv σ .And (e::es) K:=by
 (refine ci h fun t σ₁ x y=>?_;clear h)
 cases t
 ·exact⟨false,σ₁,fun F c=>qu (x F c),y⟩
 ·(refine ci y fun t σ₂ y k=>?_);exact⟨t,σ₂,fun F c=>qv (x F c) (y F c),k⟩
theorem bo {K:KZ} (h:wI G C lv σ e (Dw G C lv es K)):sO G C lv σ .Or (e::es) K:=by
 (refine ci h fun t σ₁ x y=>?_;clear h)
 cases t
 ·(refine ci y fun t σ₂ y k=>?_);exact⟨t,σ₂,fun F c=>sN (x F c) (y F c),k⟩
 ·exact⟨true,σ₁,fun F c=>qs (x F c),y⟩
theorem aJ {K:KZ} (k:K b σ):vl G C σ (.bool b) K:=⟨b,σ,fun _ _=>vk,k⟩
theorem ac {K:List AV→LA→Prop} (k:K [] σ):gC G C lv σ [] K:=⟨_,_,fun _ _=>rC,k⟩
theorem af {K:List AV→LA→Prop} (h:cW G C lv σ e (DF G C lv es K)) (he:∀env,starEach (e::es) env=(false,eval e env)::starEach es env:=by intro _;rfl):gC G C lv σ (e::es) K:=by
 (refine dK h fun v σ₁ x vs σ₂ y k=>?_;clear h)
 exact⟨_,_,fun F c=>lE (x F c) (y F c) he,k⟩
theorem b7 (h:cW G C lv σ f (DH G C lv args K))
  (he:∀env,eval (.Call f args [] pos) env=(do callWith pos (← eval f env) [] (backTo pos (starEach args env)) (backToKw pos (keywordEach [] env))):=by intro _;rfl)
  (hp:∀env,(backTo pos (starEach args env)).any (·.1)=false:=by intro _;rfl):cW G C lv σ (.Call f args [] pos) K:=by
 (refine gj h fun fv σ₁ x as σ₂ y ko r σ₃ z k=>?_;clear h)
 exact⟨r,σ₃,fun F c=>rA (x F c) (y F c) (ko F c) (z F c) he hp,k⟩
theorem em (h:cW G C lv σ o (DC G C lv name args K))
  (hb:∀env,attributeBase o name env (eval o env)=eval o env:=by intro _;rfl)
  (hfew:∀env,methodCallForm (args.length+([]:List Keyword).length) (backTo pos (starEach args env)) (backToKw pos (keywordEach [] env))=true:=by intro _;rfl)
  (hline:(apos.endLine==pos.line)=true:=by rfl)
  (hp:∀env,(backTo pos (starEach args env)).any (·.1)=false:=by intro _;rfl):cW G C lv σ (.Call (.Attribute o name apos) args [] pos) K:=by
 (refine kh h fun ov σ₁ x fv first m as σ₂ y ko r σ₃ z k=>?_;clear h)
 exact⟨r,σ₃,fun F c=>n9 (x F c) (m F c) (y F c) (ko F c) (z F c) hb hfew hline hp,k⟩
theorem dC (h:cW G C lv σ e K):lC G C lv σ e K X := .inl h
theorem iz (h:cW G C lv σ f (Dr G C lv args K X))
  (he:∀env,eval (.Call f args [] pos) env=(do callWith pos (← eval f env) [] (backTo pos (starEach args env)) (backToKw pos (keywordEach [] env))):=by intro _;rfl)
  (hp:∀env,(backTo pos (starEach args env)).any (·.1)=false:=by intro _;rfl):lC G C lv σ (.Call f args [] pos) K X:=by
 (refine mP h fun fv σ₁ x as σ₂ y ko z=>?_;clear h)
 rcases z with⟨r,σ₃,z,k⟩ | ⟨i,σ₃,z,hi,k⟩
 ·exact .inl ⟨r,σ₃,fun F c=>rA (x F c) (y F c) (ko F c) (z F c) he hp,k⟩
 ·exact .inr ⟨i,σ₃,fun F c=>v9 (x F c) (y F c) (ko F c) (z F c) he hp,hi,k⟩
theorem bq (h:cW G C lv σ o (Dq G C lv name args K X))
  (hb:∀env,attributeBase o name env (eval o env)=eval o env:=by intro _;rfl)
  (hfew:∀env,methodCallForm (args.length+([]:List Keyword).length) (backTo pos (starEach args env)) (backToKw pos (keywordEach [] env))=true:=by intro _;rfl)
  (hline:(apos.endLine==pos.line)=true:=by rfl)
  (hp:∀env,(backTo pos (starEach args env)).any (·.1)=false:=by intro _;rfl):lC G C lv σ (.Call (.Attribute o name apos) args [] pos) K X:=by
 (refine nK h fun ov σ₁ x fv first m as σ₂ y ko z=>?_;clear h)
 rcases z with⟨r,σ₃,z,k⟩ | ⟨i,σ₃,z,hi,k⟩
 ·exact .inl ⟨r,σ₃,fun F c=>n9 (x F c) (m F c) (y F c) (ko F c) (z F c) hb hfew hline hp,k⟩
 ·exact .inr ⟨i,σ₃,fun F c=>xX (x F c) (m F c) (y F c) rfl (ko F c) (z F c) hb hfew hline hp,hi,k⟩
end
section
variable {C:Cx} {K:KF} {X:KX}
theorem yn {K:KV} (h:C.ls.contains (Str.ofString x)=true) (k:K (put (Str.ofString x) a lv) σ):fH G C lv σ (.Name (Str.ofString x) pos) a K :=
 ⟨_,_,fun F c=>z7 c.sc h rfl,k⟩
theorem bJ {K:KV} (h:cW G C lv σ o (Ds G C lv x a K)):fH G C lv σ (.Attribute o x pos) a K:=by
 (refine jn h fun b σ₁ x σ₂ y k=>?_;clear h)
 exact⟨_,_,fun F c=>oq (x F c) (y F c),k⟩
theorem ck {K:KV} (h:cW G C lv σ o (Du G C lv i a K)):fH G C lv σ (.Subscript o i pos) a K:=by
 (refine qg h fun b σ₁ x c σ₂ y σ₃ z k=>?_;clear h)
 exact⟨_,_,fun F c=>z6 (x F c) (y F c) (z F c),k⟩
theorem dP {K:KV} (k:K lv σ):qW G C lv σ [] [] K:=⟨_,_,fun _ _=>yq,k⟩
theorem bQ {K:KV} (h:fH G C lv σ t a (DI G C es as K)) (he:∀env,∃b,assignEach (t::es) env=(b,assign t env)::assignEach es env:=by intro _;exact⟨_,rfl⟩):qW G C lv σ (t::es) (a::as) K:=by
 (refine dK h fun lv₁ σ₁ x lv₂ σ₂ y k=>?_;clear h)
 exact⟨_,_,fun F c=>wH (x F c) (y F c) he,k⟩
theorem wC {K:KV} (hn:C.n=some n) (hi:σ[i]? = some (.list xs)) (he:es.length=xs.length) (y:qW G C lv σ es xs K)
  (hl:∀env,(assignEach es env).length=es.length:=by intro _;rfl) (hst:∀env,(assignEach es env).findIdx? (·.1)=none:=by intro _;rfl):fH G C lv σ (.Tuple es k pos) (.dyn i) K:=by
 (refine ci y fun lv₁ σ₁ y k=>?_)
 exact⟨_,_,fun F c=>wA (n7 hi) (jv (c.nh hn) hi) hi he (y F c) hl hst,k⟩
theorem wB {K:KV} (hn:C.n=some n) (hi:σ[i]? = some (.tuple xs)) (he:es.length=xs.length) (y:qW G C lv σ es xs K)
  (hl:∀env,(assignEach es env).length=es.length:=by intro _;rfl) (hst:∀env,(assignEach es env).findIdx? (·.1)=none:=by intro _;rfl):fH G C lv σ (.Tuple es k pos) (.dyn i) K:=by
 (refine ci y fun lv₁ σ₁ y k=>?_)
 exact⟨_,_,fun F c=>wA (iP hi) (mX (c.nh hn) hi) hi he (y F c) hl hst,k⟩
def jN (G:Gd) (C:Cx) (rest:List Stmt) (K:KF) (X:KX) (f:AFl) (lv:LV) (σ:LA):Prop:=match f with
 | .next=>eQ G C lv σ rest K X
 | f=>K f lv σ
theorem ap (h:eQ G C lv σ rest K X):jN G C rest K X .next lv σ:=h
theorem aM (h:K (.ret a) lv σ):jN G C rest K X (.ret a) lv σ:=h
theorem rt (h:K .brk lv σ):jN G C rest K X .brk lv σ:=h
theorem bH (k:K .next lv σ):eQ G C lv σ [] K X := .inl ⟨_,_,_,fun _ _=>vH,k⟩
theorem aW {st:Stmt} (h:jS G C lv σ st (jN G C rest K X) X):eQ G C lv σ (st::rest) K X:=by
 rcases h with⟨f,lv₁,σ₁,x,y⟩ | ⟨i,lv₁,σ₁,x,hi,y⟩
 ·cases f with
  | next =>
   rcases y with⟨f,lv₂,σ₂,y,k⟩ | ⟨i,lv₂,σ₂,y,hi,k⟩
   ·exact .inl ⟨_,_,_,fun F c=>rx (x F c) (y F c),k⟩
   ·exact .inr ⟨_,_,_,fun F c=>vJ (x F c) (y F c),hi,k⟩
  | brk=>exact .inl ⟨_,_,_,fun F c=>iy (by intro h;cases h) (x F c),y⟩
  | cont=>exact .inl ⟨_,_,_,fun F c=>iy (by intro h;cases h) (x F c),y⟩
  | ret a=>exact .inl ⟨_,_,_,fun F c=>iy (by intro h;cases h) (x F c),y⟩
 ·exact .inr ⟨_,_,_,fun F c=>vI (x F c),hi,y⟩
theorem fF (h:lC G C lv σ e (CJ G C lv t K) (Ae lv X)) (hs:∀env,swapsWithSole [t] e pos.line env=pure false:=by intro _;rfl) (hw:∀env,swappedStores [t] e env=pure none:=by intro _;rfl) (he:∀env,(assignEach [t] env).map (·.2)=[assign t env]:=by intro _;rfl) :
  jS G C lv σ (.Assign [t] e pos) K X:=by
 rcases h with⟨a,σ₁,x,lv₂,σ₂,y,k⟩ | ⟨i,σ₁,x,hi,k⟩
 ·exact .inl ⟨_,_,_,fun F c=>iY (x F c) (y F c) hs hw he,k⟩
 ·exact .inr ⟨_,_,_,fun F c=>pE (x F c) hs hw,hi,k⟩
theorem th (h:lC G C lv σ e (Di lv K) (Ae lv X)) (hs:∀env,swapsWith e none pos.line env=pure false:=by intro _;rfl):jS G C lv σ (.Expr e pos) K X:=by
 rcases h with⟨a,σ₁,x,k⟩ | ⟨i,σ₁,x,hi,k⟩
 ·exact .inl ⟨_,_,_,fun F c=>ry c.sc (x F c) hs,k⟩
 ·exact .inr ⟨_,_,_,fun F c=>ta c.sc.kind (x F c) hs,hi,k⟩
theorem pF (h:lC G C lv σ e (CI lv K) (Ae lv X)):jS G C lv σ (.Return (some e) pos) K X:=by
 rcases h with⟨a,σ₁,x,k⟩ | ⟨i,σ₁,x,hi,k⟩
 ·exact .inl ⟨_,_,_,fun F c=>xM (x F c),k⟩
 ·exact .inr ⟨_,_,_,fun F c=>vO (x F c),hi,k⟩
theorem td (k:K (.ret .none) lv σ):jS G C lv σ (.Return none pos) K X := .inl ⟨_,_,_,fun _ _=>vL,k⟩
theorem qJ (k:K .brk lv σ):jS G C lv σ (.Break pos) K X := .inl ⟨_,_,_,fun _ _=>s9,k⟩
theorem xQ (h:wI G C lv σ t (kI G C lv b o K X)):jS G C lv σ (.If t b o pos) K X:=by
 (refine ci h fun c σ₁ x y=>?_;clear h)
 cases c
 ·rcases y with⟨f,lv₂,σ₂,y,k⟩ | ⟨i,lv₂,σ₂,y,hi,k⟩
  ·exact .inl ⟨_,_,_,fun F c=>xO (x F c) (y F c),k⟩
  ·exact .inr ⟨_,_,_,fun F c=>rz (c:=false) (x F c) (y F c),hi,k⟩
 ·rcases y with⟨f,lv₂,σ₂,y,k⟩ | ⟨i,lv₂,σ₂,y,hi,k⟩
  ·exact .inl ⟨_,_,_,fun F c=>xN (x F c) (y F c),k⟩
  ·exact .inr ⟨_,_,_,fun F c=>rz (c:=true) (x F c) (y F c),hi,k⟩
theorem cD (hn:C.n=some n) (h:cW G C lv σ e fun v σ₁=>∃i j D N,v = .dyn i∧ECls G.g D N∧σ₁[i]? = some (.exc D j true)∧X i lv (σ₁.set i (.exc D j false))):jS G C lv σ (.Raise (some e) none pos) K X:=by
 (refine nG h fun v σ₁ x i j D N zz156 P hi k=>?_;clear h;subst zz156)
 exact .inr ⟨_,_,_,fun F c=>qH P (x F c) hi (c.nh hn),⟨D,j,aU hi⟩,k⟩
end
end
section
variable {G:Gd} {F:Fx} {A:Around} {lv lv' lv₁ lv₂:LV} {σ σ' σ₁ σ₂ σ₃:LA} {π π' π₁:PM} {s s' s₁:Shared}
def CtP (G:Gd) (k:Nat) (σ:LA) (f:AV) (as:List AV) (K:KA) (X:KN):Prop :=
 (∃r σ',(∀A,Rm A k→Cl G A σ f as r σ')∧K r σ')∨∃i σ',(∀A,Rm A k→yk G A σ f as i σ')∧Ak σ' i∧X i σ'
theorem bj {K:KA} (h:CtP G k σ f as K X) (hn:C.n=some m) (hk:k≤m):wx G C σ f as K X:=by
 rcases h with⟨r,σ',x,k'⟩ | ⟨i,σ',x,hi,k'⟩
 ·exact .inl ⟨r,σ',fun F c=>x _ ((c.rm m hn).less hk),k'⟩
 ·exact .inr ⟨i,σ',fun F c=>x _ ((c.rm m hn).less hk),hi,k'⟩
theorem jV {K:KA} (h:CtP G k σ f as K fun _ _=>False) (hn:C.n=some m) (hk:k≤m):kd G C σ f as K:=by
 rcases h with⟨r,σ',x,k'⟩ | ⟨i,σ',x,hi,k'⟩
 ·exact⟨r,σ',fun F c=>x _ ((c.rm m hn).less hk),k'⟩
 ·exact k'.elim
theorem CtP.imp {K K':KA} (h:CtP G k σ f as K X) (h1:∀r σ',K r σ'→K' r σ') (h2:∀i σ',X i σ'→X' i σ'):CtP G k σ f as K' X':=by
 rcases h with⟨r,σ',x,k'⟩ | ⟨i,σ',x,hi,k'⟩
 ·exact .inl ⟨r,σ',x,h1 _ _ k'⟩
 ·exact .inr ⟨i,σ',x,hi,h2 _ _ k'⟩
theorem bX {C:Cx} {P K:KA} (h:CtP G k σ f as P fun _ _=>False) (hn:C.n=some m) (hk:Nat.ble k m=true) (imp:∀r σ',P r σ'→K r σ'):kd G C σ f as K:=jV (h.imp imp fun _ _ q=>q) hn (Nat.le_of_ble_eq_true hk)
theorem cp {C:Cx} {P K:KA} {X:KN} (h:CtP G k σ f as P fun _ _=>False) (hn:C.n=some m) (hk:Nat.ble k m=true) (imp:∀r σ',P r σ'→K r σ'):wx G C σ f as K X:=bj (h.imp imp fun _ _ q=>q.elim) hn (Nat.le_of_ble_eq_true hk)
theorem Rm.mono (h:n≤m):∀A,Rm A m→Rm A n:=fun _ x=>x.less h
theorem CtP.more {K:KA} (h:CtP G k σ f as K X) (hk:k≤k'):CtP G k' σ f as K X:=by
 rcases h with⟨r,σ',x,k'⟩ | ⟨i,σ',x,hi,k'⟩
 ·exact .inl ⟨r,σ',fun A R=>x A (R.less hk),k'⟩
 ·exact .inr ⟨i,σ',fun A R=>x A (R.less hk),hi,k'⟩
noncomputable abbrev iN (fd:FuncData) (ls gs:List Str) (k:Nat):Cx:=⟨ls,[],gs,[],some k,some fd.code,fd.qualname ++ ".<locals>.",false⟩
theorem ye {K:KA} (D:DefAt G a fd) (K0:ScopeOk fd names ls gs) (hb:fd.body = .stmts body)
  (hbind:∀vs:List Value,vs.length=names.length→bindArgs fd ⟨vs,[]⟩=pure (names.zip vs)) (hn:as.length=names.length) (hrest:ls=names++rest) (hlv:(names.zip as++rest.map fun x=>(x,.unk))=lv)
  (h:eQ G (iN fd ls gs k) lv σ body (fun f _ σ'=>K (dS f) σ') (fun i _ σ'=>X i σ')):CtP G (k+1) σ (.base a) as K X:=by
 have ok:∀ (A:Around),Rm A (k+1)→∀L,(iN fd ls gs k).Ok ⟨A.deeper (callEnv fd L a),callEnv fd L a,[]⟩:=fun A R L=>by
  refine⟨⟨K0.kind,fun x hx=>?_,fun x hx=>by simp at hx,fun x hx=>?_,K0.gl,K0.bl⟩,⟨⟨A,rfl⟩,⟨_,rfl⟩⟩,rfl,fun n hn=>?_,fun c h=>by cases h;exact⟨rfl,rfl⟩,fun h=>by cases h⟩
  ·have:=List.all_eq_true.mp K0.loc x (by simpa using hx)
   show fd.scope.names.lookup x=_;simpa using this
  ·have:=List.all_eq_true.mp K0.glob x (by simpa using hx)
   show fd.scope.names.lookup x=_;simpa using this
  ·cases hn;exact R.deeper
 have c1:∀x∈fd.scope.names,x.2 ≠ .cell:=fun x hx=>by have:=List.all_eq_true.mp K0.nocell x hx;simpa using this
 have c2:∀x∈names,fd.scope.names.lookup x=some .local:=fun x hx=>by have:=List.all_eq_true.mp K0.par x hx;simpa using this
 rcases h with⟨f,lv',σ',x,k'⟩ | ⟨i,lv',σ',x,hi,k'⟩
 ·exact .inl ⟨_,_,fun A R=>ww D R.room hb hbind hn K0.nodup c1 c2 K0.cl (fun L=>⟨lv',Ex.wk (hlv ▸ Wk.pad _ rest) (x _ (ok A R L))⟩) K0.co K0.gen K0.kind,k'⟩
 ·(refine bC (id hi) fun D' j hx=>?_)
  exact .inr ⟨_,_,fun A R=>yf D R.room hb hbind hn K0.nodup c1 c2 K0.cl (fun L=>⟨lv',fun π s S Q E z=>x _ (ok A R L) π s (S.wk (hlv ▸ Wk.pad _ rest)) Q E z⟩) hx K0.co K0.gen K0.kind,hi,k'⟩
theorem StC.allocs (S:StC g A σ π s) (xs:List Addr) (hl:xs.length=aos.length) (hnd:xs.Nodup)
  (hk:∀b o,s.heap.get? b=some o→s'.heap.get? b=some o) (hx:∀x∈xs,s.heap.get? x=none) (ho:∀ (ao:AO),ao∈aos→∀ (π:PM) i,own π i ao=[π.a i])
  (hr:∀π':PM,π.Ext π' σ.length→(∀ (k:Nat) x,xs[k]? = some x→π'.a (σ.length+k)=x)→∀ (k:Nat) ao,aos[k]? = some ao→ORep π' (σ.length+aos.length) s'.heap (σ.length+k) ao) (os:s'.os=s.os) (gens:s'.gens=s.gens) :
  ∃π':PM,StC g A (σ++aos) π' s'∧Fwd A X σ π s (σ++aos) π' s'∧(∀ (k:Nat) x,xs[k]? = some x→π'.a (σ.length+k)=x)∧∀b,Tr π' (σ++aos) b→Tr π σ b∨b∈xs:=by
 let π':PM:=⟨fun i=>if i < σ.length then π.a i else xs.getD (i - σ.length) 0,fun i=>if i < σ.length then π.d i else 0⟩
 have e:π.Ext π' σ.length:=⟨fun i hi=>if_pos hi,fun i hi=>if_pos hi⟩
 have ea:∀ (k:Nat) x,xs[k]? = some x→π'.a (σ.length+k)=x:=fun k x hk=>by
  show (if σ.length+k < σ.length then _ else _)=_
  rw[if_neg (Nat.not_lt.mpr (Nat.le_add_right _ _)),Nat.add_sub_cancel_left,List.getD_eq_getElem?_getD,hk];rfl
 have getI:∀i o,(σ++aos)[i]? = some o→(σ[i]? = some o∧i < σ.length)∨∃ (k:Nat) (x:Addr),i=σ.length+k∧aos[k]? = some o∧xs[k]? = some x∧own π' i o=[x]:=fun i o h=>by
  by_cases hi:i < σ.length
  ·rw[List.getElem?_append_left hi] at h;exact .inl ⟨h,hi⟩
  ·rw[List.getElem?_append_right (Nat.le_of_not_lt hi)] at h
   have hlt:=(List.getElem?_eq_some_iff.mp h).1
   have hx':xs[i - σ.length]? = some xs[i - σ.length]:=List.getElem?_eq_getElem (by omega)
   refine .inr ⟨i - σ.length,_,by lia,h,hx',?_⟩
   rw[ho o (List.mem_of_getElem? h) π' i]
   have:=ea _ _ hx'
   rw[show σ.length+(i - σ.length)=i by lia] at this
   rw[this]
 have trI:∀b,Tr π' (σ++aos) b→Tr π σ b∨s.heap.get? b=none:=fun b ⟨i,o,h1,h2⟩=>by
  rcases getI i o h1 with⟨h,hi⟩ | ⟨k,x,rfl,h,hx',h3⟩
  ·exact .inl ⟨i,o,h,by rwa[cI e hi] at h2⟩
  ·rw[h3,List.mem_singleton] at h2;subst h2
   exact .inr (hx _ (List.mem_of_getElem? hx'))
 refine⟨π',⟨fun b o q=>hk b o (S.keepg b o q),⟨fun i o h=>?_,fun i j o o' b h1 h2 h3 h4=>?_,fun i o b h1 h2=>?_⟩,?_⟩,⟨e,by simp,fun b o _ _ q=>⟨fun _=>hk b o q,o.slots,hk b o q⟩,trI,fun b ⟨i,o,h1,h2⟩=>⟨i,o,by rw[List.getElem?_append_left (List.getElem?_eq_some_iff.mp h1).1];exact h1,by rw[cI e (List.getElem?_eq_some_iff.mp h1).1];exact h2⟩,os,gens⟩,ea,fun b ⟨i,o,h1,h2⟩=>?_⟩
 ·rw[List.length_append]
  rcases getI i o h with⟨h,hi⟩ | ⟨k,x,rfl,h,hx',h3⟩
  ·exact(S.rep.at_ i o h).mono e (Nat.le_add_right _ _) hi fun b _ ob q=>hk b ob q
  ·exact hr π' e ea k o h
 ·rcases getI i o h1 with⟨u1,hi⟩ | ⟨k,x,rfl,u1,hx1,g1⟩<;>rcases getI j o' h2 with⟨u2,hj⟩ | ⟨k',x',rfl,u2,hx2,g2⟩
  ·rw[cI e hi] at h3;rw[cI e hj] at h4;exact S.rep.sep i j o o' b u1 u2 h3 h4
  ·rw[cI e hi] at h3
   (refine b8 (S.rep.there ⟨i,o,u1,h3⟩) fun ob q=>?_)
   rw[g2,List.mem_singleton] at h4;subst h4
   rw[hx _ (List.mem_of_getElem? hx2)] at q;cases q
  ·rw[cI e hj] at h4
   (refine b8 (S.rep.there ⟨j,o',u2,h4⟩) fun ob q=>?_)
   rw[g1,List.mem_singleton] at h3;subst h3
   rw[hx _ (List.mem_of_getElem? hx1)] at q;cases q
  ·rw[g1,List.mem_singleton] at h3;rw[g2,List.mem_singleton] at h4
   subst h3;subst h4
   (refine b8 (List.getElem?_eq_some_iff.mp hx1) fun a1 b1=>?_)
   (refine b8 (List.getElem?_eq_some_iff.mp hx2) fun a2 b2=>?_)
   rw[(List.getElem_inj hnd).mp (b1.trans b2.symm)]
 ·rcases getI i o h1 with⟨h1,hi⟩ | ⟨k,x,rfl,u1,hx1,g1⟩
  ·rw[cI e hi] at h2;exact S.rep.new i o b h1 h2
  ·rw[g1,List.mem_singleton] at h2;subst h2
   cases q:g.get? b with
   | none=>rfl
   | some ob=>have:=S.keepg b ob q;rw[hx _ (List.mem_of_getElem? hx1)] at this;cases this
 ·(refine aF (S.frs) fun fs h1 h2=>?_)
  refine⟨fs,h1,fun f hf=>?_⟩
  (refine df (h2 f hf) fun k L o a b c d q=>?_)
  refine⟨k,L,o,a,hk _ _ b,c,d,fun t=>?_⟩
  rcases trI L t with t | t
  ·exact q t
  ·rw[b] at t;cases t
 ·rcases getI i o h1 with⟨h,hi⟩ | ⟨k,x,rfl,h,hx',h3⟩
  ·exact .inl ⟨i,o,h,by rwa[cI e hi] at h2⟩
  ·rw[h3,List.mem_singleton] at h2;subst h2
   exact .inr (List.mem_of_getElem? hx')
theorem j8 (hE:env.frame=some L) (S:StC g A σ π s) (W1:Fwd A cG σ π s σ₁ π₁ s₁) (hL:s.heap.get? L=none)
  (S':StC g (A.deeper env) σ' π' s') (W':Fwd (A.deeper env) X σ₁ π₁ s₁ σ' π' s') (hX:∀b,X b→s.heap.get? b=none):StC g A σ' π' s'∧Fwd A cG σ π s σ' π' s':=by
 (refine aF (S.frs) fun fs f1 f2=>?_)
 (refine aF (S'.frs) fun fs' f1' f2'=>?_)
 have e:fs'=env::fs:=by
  have:(A.frames.map (env::·))=some fs':=f1'
  rw[f1] at this;exact(Option.some.inj this).symm
 subst e
 refine⟨⟨S'.keepg,S'.rep,fs,f1,fun g hg=>f2' g (List.mem_cons_of_mem _ hg)⟩,⟨W1.ext.trans W'.ext W1.len,Nat.le_trans W1.len W'.len,fun b ob h1 _ h3=>?_,fun b hb=>?_,fun b t=>W'.stay b (W1.stay b t),W'.os.trans W1.os,W'.gens.trans W1.gens⟩⟩
 ·have hne:b≠L:=fun q=>by rw[q,hL] at h3;cases h3
  have nt:¬Tr π₁ σ₁ b:=fun t=>by
   rcases W1.fresh b t with q | q
   ·exact h1 q
   ·rw[q] at h3;cases h3
  (refine hZ (W1.kept b ob h1 id h3) fun a1 sl a2=>?_)
  (refine hZ (W'.kept b _ nt (fun q=>by rw[hX b q] at h3;cases h3) a2) fun k1 sl' k2=>?_)
  refine⟨fun hb=>?_,sl',k2⟩
  refine(W'.kept b ob nt (fun q=>by rw[hX b q] at h3;cases h3) (a1 hb)).1 fun hb'=>?_
  rw[kX f1 hE] at hb'
  rcases List.mem_cons.mp hb' with q | q
  ·exact hne q
  ·exact hb q
 ·rcases W'.fresh b hb with q | q
  ·exact W1.fresh b q
  ·by_cases t:Tr π σ b
   ·exact .inl t
   ·right
    cases q':s.heap.get? b with
    | none=>rfl
    | some ob =>
     (refine hZ (W1.kept b ob t id q') fun _ sl h=>?_)
     rw[q] at h;cases h
theorem pk (k:Str→Option NameKind):∀ (r:List (Str×Value)) (m:Str→Option Value) (x:Str),bindL k r m x=((r.filter fun p=>k p.1==some .local).reverse.lookup x).or (m x)
 | [],m,x=>by simp[bindL]
 | (n,v)::r,m,x=>by
  unfold bindL
  rw[pk k r,List.filter_cons]
  by_cases hk:k n=some .local
  ·simp only[hk,if_true,beq_self_eq_true,List.reverse_cons,List.lookup_append,List.lookup_cons,List.lookup_nil]
   by_cases hx:x=n
   ·subst hx;simp
   ·simp[hx,show (x==n)=false from beq_eq_false_iff_ne.mpr hx]
  ·have:(k n==some NameKind.local)=false:=beq_eq_false_iff_ne.mpr hk
   simp[hk,this]
theorem pn (k:Str→Option NameKind):∀ (r:List (Str×Value)) (m:Str→Option Value) (x:Str),bindC k r m x=((r.filter fun p=>!(k p.1==some .local)).reverse.lookup x).or (m x)
 | [],m,x=>by simp[bindC]
 | (n,v)::r,m,x=>by
  unfold bindC
  rw[pn k r,List.filter_cons]
  by_cases hk:k n=some .local
  ·simp[hk]
  ·have:(k n==some NameKind.local)=false:=beq_eq_false_iff_ne.mpr hk
   simp only[hk,if_false,this,Bool.not_false,if_true,List.reverse_cons,List.lookup_append,List.lookup_cons,List.lookup_nil]
   by_cases hx:x=n
   ·subst hx;simp
   ·simp[hx,show (x==n)=false from beq_eq_false_iff_ne.mpr hx]
theorem fL {β:Type} (q:Str→Bool) (x:Str):∀l:List (Str×β),(l.filter fun p=>q p.1).lookup x=if q x then l.lookup x else none
 | []=>by simp
 | (y,b)::l=>by
  rw[List.filter_cons]
  have ih:=fL q x l
  cases hq:q y with
  | true =>
   rw[if_pos rfl,List.lookup_cons,List.lookup_cons,ih]
   by_cases e:x=y
   ·subst e;simp[hq]
   ·simp[show (x==y)=false from beq_eq_false_iff_ne.mpr e]
  | false =>
   rw[if_neg Bool.false_ne_true,ih,List.lookup_cons]
   by_cases e:x=y
   ·subst e;simp[hq]
   ·simp[show (x==y)=false from beq_eq_false_iff_ne.mpr e]
theorem fC {β:Type} (q:Str→Bool) (x:Str) {ns:List Str} {vs:List β} (hd:ns.Nodup) (hl:ns.length=vs.length):((ns.zip vs).filter fun p=>q p.1).reverse.lookup x=if q x then (ns.zip vs).lookup x else none:=by
 rw[← List.filter_reverse,fL]
 cases q x
 ·rfl
 ·simp only[if_true];exact dm hd hl
structure ScopeC (fd:FuncData) (names ls cs gs:List Str):Prop where
 kind:fd.scope.kind = .function
 co:fd.scope.isCoroutine=false
 gen:fd.scope.isGenerator=false
 loc:(ls.all fun x=>fd.scope.names.lookup x==some .local)=true
 cel:(cs.all fun x=>fd.scope.names.lookup x==some .cell)=true
 glob:(gs.all fun x=>fd.scope.names.lookup x==some .globalImplicit)=true
 par:(names.all fun x=>fd.scope.names.lookup x==some .local || (fd.scope.names.lookup x==some .cell && cs.contains x))=true
 cells:∀c,cellsFrom c fd.scope.names []=(cs.zipIdx.map fun p=>(p.1,c+p.2)).reverse
 nodup:names.Nodup
 cnodup:cs.Nodup
 cl:fd.closure=[]
 gl:fd.globals=mainGlobals
 bl:fd.builtins=builtinsNs
noncomputable def bi (cs:List Str) (n:Nat):List (Str×Nat):=(cs.zipIdx.map fun p=>(p.1,n+p.2)).reverse
noncomputable abbrev fM (fd:FuncData) (ls cs gs:List Str) (n k:Nat):Cx:=⟨ls,cs,gs,bi cs n,some k,some fd.code,fd.qualname ++ ".<locals>.",true⟩
theorem gV (h:p∈bi cs n):∃i,cs[i]? = some p.1∧p.2=n+i:=by
 unfold bi at h
 rw[List.mem_reverse,List.mem_map] at h
 obtain⟨⟨x,i⟩,h1,h2⟩:=h
 have:=List.mem_zipIdx_iff_getElem?.mp h1
 subst h2
 exact⟨i,this,rfl⟩
theorem gW (hd:cs.Nodup) (h:cs[i]? = some x):(bi cs n).lookup x=some (n+i):=by
 cases q:(bi cs n).lookup x with
 | none =>
  exfalso
  have hm:(x,n+i)∈bi cs n:=by
   unfold bi
   rw[List.mem_reverse,List.mem_map]
   (refine b8 (List.getElem?_eq_some_iff.mp h) fun h1 h2=>?_)
   exact⟨(x,i),by rw[List.mem_zipIdx_iff_getElem?];exact h,rfl⟩
  have:∀l:List (Str×Nat),(x,n+i)∈l→l.lookup x≠none:=fun l=>by
   induction l with
   | nil=>intro h;cases h
   | cons p l ih =>
    obtain⟨y,j⟩:=p
    intro h
    rw[List.lookup_cons]
    by_cases e:x=y
    ·subst e;simp
    ·rw[show (x==y)=false from beq_eq_false_iff_ne.mpr e]
     rcases List.mem_cons.mp h with h | h
     ·cases h;exact absurd rfl e
     ·exact ih h
  exact this _ hm q
 | some j =>
  (refine aF (gV (mem_of_lookup q)) fun i' h1 h2=>?_)
  (refine b8 (List.getElem?_eq_some_iff.mp h) fun a1 b1=>?_)
  (refine b8 (List.getElem?_eq_some_iff.mp h1) fun a2 b2=>?_)
  have:=(List.getElem_inj hd).mp (b1.trans b2.symm)
  subst this
  simp only at h2
  rw[h2]
theorem pQ (x:Str):∀ {ns:List Str} {as:List AV} {vs:List Value},VRs π n as vs→match (ns.zip as).lookup x,(ns.zip vs).lookup x with
  | some a,some v=>VR π n a v
  | none,none=>True
  | _,_=>False
 | [],_,_,_=>by simp
 | y::ns,[],_,h=>by cases h;simp
 | y::ns,a::as,_,.cons (b:=v) (m:=vs) h1 h2=>by
  simp only[List.zip_cons_cons,List.lookup_cons]
  cases hq:x==y with
  | true=>exact h1
  | false=>exact pQ x h2
theorem wj {names rest ls cs gs:List Str} {K:KA} (D:DefAt G a fd) (K0:ScopeC fd names ls cs gs) (hb:fd.body = .stmts body)
  (hbind:∀vs:List Value,vs.length=names.length→bindArgs fd ⟨vs,[]⟩=pure (names.zip vs)) (hn:as.length=names.length)
  (hlv:((names.zip as).filter (fun p=>fd.scope.names.lookup p.1==some .local))++rest.map (fun x=>(x,.unk))=lv) (hcv:cs.map (fun x=>(names.zip as).lookup x)=cvs)
  (h:eQ G (fM fd ls cs gs σ.length k) lv (σ++cvs.map .cell) body (fun f _ σ'=>K (dS f) σ') (fun i _ σ'=>X i σ')):CtP G (k+1) σ (.base a) as K X:=by
 have ok:∀ (A:Around),Rm A (k+1)→∀L,(fM fd ls cs gs σ.length k).Ok ⟨A.deeper (callEnvC fd L a),callEnvC fd L a,bi cs σ.length⟩:=fun A R L=>by
  refine⟨⟨K0.kind,fun x hx=>?_,fun x hx => .inl ?_,fun x hx=>?_,K0.gl,K0.bl⟩,⟨⟨A,rfl⟩,⟨_,rfl⟩⟩,rfl,fun n hn=>?_,fun c h=>by cases h;exact⟨rfl,rfl⟩,fun _ x hx=>?_⟩
  ·have:=List.all_eq_true.mp K0.loc x (by simpa using hx)
   show fd.scope.names.lookup x=_;simpa using this
  ·have:=List.all_eq_true.mp K0.cel x (by simpa using hx)
   show fd.scope.names.lookup x=_;simpa using this
  ·have:=List.all_eq_true.mp K0.glob x (by simpa using hx)
   show fd.scope.names.lookup x=_;simpa using this
  ·cases hn;exact R.deeper
  ·have:=List.all_eq_true.mp K0.cel x (by simpa using hx)
   show fd.scope.names.lookup x=_;simpa using this
 have enter:∀ (A:Around),Rm A (k+1)→∀π s vs,StC G.g A σ π s→VRs π σ.length as vs→∀ (R:Result→Shared→Prop),
   (∀s₁ π₁,St G ⟨A.deeper (callEnvC fd s.heap.objs.size a),callEnvC fd s.heap.objs.size a,bi cs σ.length⟩ lv (σ++cvs.map .cell) π₁ s₁→Fwd A cG σ π s (σ++cvs.map .cell) π₁ s₁→s.heap.get? s.heap.objs.size=none →
    aS G.M (A.deeper (callEnvC fd s.heap.objs.size a)) (execs body (callEnvC fd s.heap.objs.size a)) (fun f s'=>R (.ok (.ret (match f with | .ret v=>v | _ => .none))) s')
     (fun e s'=>aS G.M (A.deeper (callEnvC fd s.heap.objs.size a)) (leaving (callEnvC fd s.heap.objs.size a) e) (fun _ s''=>R (.error e) s'') (fun e' s''=>R (.error e') s'') s') s₁) →
   cS G.M A (.call (.ref a) ⟨vs,[]⟩) R s:=fun A Rm π s vs S hv R go=>by
  obtain⟨o,ho,hd⟩:=D.at_
  have hlen:vs.length=names.length:=hv.length.symm.trans hn
  have hcel:∀i x,cs[i]? = some x→fd.scope.names.lookup x=some .cell:=fun i x hx=>by have:=List.all_eq_true.mp K0.cel x (List.mem_of_getElem? hx);simpa using this
  have hcf:=K0.cells (s.heap.objs.size+1)
  have hlk:∀i x,cs[i]? = some x→(cellsFrom (s.heap.objs.size+1) fd.scope.names []).lookup x=some (s.heap.objs.size+1+i):=fun i x hx=>by
   rw[hcf];exact gW K0.cnodup hx
  refine jM Rm.room (S.keepg _ _ ho) hd (let ⟨mc,p,q⟩:=D.lim;⟨mc,p.keeps S.keepg,q⟩) (D.code.keeps S.keepg) hb (hbind vs hlen) K0.cl (fun x hx=>?_) (fun s₁ x=>?_) K0.co K0.gen K0.kind
  ·obtain⟨y,v⟩:=x
   have hy:=(List.of_mem_zip hx).1
   have:=List.all_eq_true.mp K0.par y hy
   simp only[Bool.or_eq_true,Bool.and_eq_true,beq_iff_eq,List.contains_iff_mem] at this
   rcases this with q | ⟨q,hm⟩
   ·exact .inl q
   ·obtain⟨i,hi,he⟩:=List.getElem_of_mem hm
    exact .inr ⟨q,by rw[hlk i y (by rw[List.getElem?_eq_getElem hi,he])];rfl⟩
  have hL:s.heap.get? s.heap.objs.size=none:=aC _
  have hk₀:=x.toInCall.keep
  obtain⟨h',tk,rfl⟩:=x.toInCall.same
  obtain⟨π₁,C₁,W₁,ea,trx⟩:=S.allocs (X:=cG) (s':={ s with heap:=h',toks:=tk }) (aos:=cvs.map .cell) (cs.zipIdx.map fun p=>s.heap.objs.size+1+p.2) (by subst hcv;simp)
   (by
    rw[show (cs.zipIdx.map fun p=>s.heap.objs.size+1+p.2)=(List.range cs.length).map (fun i=>s.heap.objs.size+1+i) by
     apply List.ext_getElem<;>simp]
    exact(List.nodup_range).map _ (fun a b hab h=>hab (Nat.add_left_cancel h)))
   hk₀ (fun y hy=>by
    obtain⟨p,hp,rfl⟩:=List.mem_map.mp hy
    cases q:s.heap.get? (s.heap.objs.size+1+p.2) with
    | none=>rfl
    | some o=>exact absurd (Heap.lt_size q) (Nat.not_lt.mpr (Nat.le_trans (Nat.le_add_right _ 1) (Nat.le_add_right _ _))))
   (fun ao hao π i=>by obtain⟨v,_,rfl⟩:=List.mem_map.mp hao;rfl)
   (fun π' e ea i ao hao=>by
    rw[List.getElem?_map] at hao
    obtain⟨v,hv',rfl⟩:=Option.map_eq_some_iff.mp hao
    have hcs:∃y,cs[i]? = some y∧v=(names.zip as).lookup y:=by
     subst hcv
     rw[List.getElem?_map] at hv'
     obtain⟨y,h1,h2⟩:=Option.map_eq_some_iff.mp hv'
     exact⟨y,h1,h2.symm⟩
    obtain⟨y,hy,rfl⟩:=hcs
    have hxa:(cs.zipIdx.map fun p=>s.heap.objs.size+1+p.2)[i]? = some (s.heap.objs.size+1+i):=by
     rw[List.getElem?_map,List.getElem?_zipIdx,hy];simp
    have hcm:=x.cell y _ (hlk i y hy)
    have hkind:(callEnvC fd s.heap.objs.size a).kindOf y=some .cell:=hcel i y hy
    rw[pn,fC (fun z=>!((callEnvC fd s.heap.objs.size a).kindOf z==some NameKind.local)) y K0.nodup hlen.symm,hkind] at hcm
    refine⟨_,by rw[ea i _ hxa];exact hcm,?_⟩
    have hz:=pQ (π:=π) (n:=σ.length) y (ns:=names) hv
    simp only[show ((!(some NameKind.cell==some NameKind.local))=true) from rfl,if_true,Option.or_none]
    revert hz
    cases (names.zip as).lookup y<;>cases (names.zip vs).lookup y<;>intro hz<;>first | exact hz | exact hz.mono e (Nat.le_add_right _ _)) rfl rfl
  obtain⟨fs,f1,f2⟩:=C₁.frs
  have hgL:G.g.get? s.heap.objs.size=none:=by
   cases q:G.g.get? s.heap.objs.size with
   | none=>rfl
   | some o=>have:=S.keepg _ _ q;rw[hL] at this;cases this
  have htL:¬Tr π₁ (σ++cvs.map .cell) s.heap.objs.size:=fun t=>by
   rcases trx _ t with t | t
   ·obtain⟨ob,hob⟩:=S.rep.there t
    rw[hL] at hob;cases hob
   ·obtain⟨p,hp,e⟩:=List.mem_map.mp t
    exact absurd e (Nat.ne_of_gt (Nat.lt_of_lt_of_le (Nat.lt_succ_self _) (Nat.le_add_right _ _)))
  have hns:h'.Ns s.heap.objs.size _:=x.toInCall.ns
  refine go _ π₁ ⟨⟨C₁.keepg,C₁.rep,callEnvC fd s.heap.objs.size a::fs,by show (A.frames.map _)=_;rw[f1];rfl,fun g hg=>?_⟩,⟨_,hns,fun y=>?_⟩,hgL,htL,?_,fun p hp=>?_⟩ W₁ hL
  ·rcases List.mem_cons.mp hg with rfl | hg
   ·obtain⟨o',es,ep,g1,g2,_⟩:=hns
    exact⟨by show fd.scope.kind≠_;rw[K0.kind];decide,_,o',rfl,g1,(fun vs q=>by rw[g2] at q;cases q),hgL,htL⟩
   ·exact f2 g hg
  ·subst hlv
   rw[pk,fC (fun z=>((callEnvC fd s.heap.objs.size a).kindOf z==some NameKind.local)) y K0.nodup hlen.symm,Option.or_none]
   rw[List.lookup_append,fL (fun z=>fd.scope.names.lookup z==some NameKind.local) y]
   have hz:=pQ (π:=π) (n:=σ.length) y (ns:=names) hv
   have ek:(callEnvC fd s.heap.objs.size a).kindOf y=fd.scope.names.lookup y:=rfl
   rw[ek]
   have hrest:∀l:List Str,(l.map fun x=>(x,AV.unk)).lookup y=some AV.unk∨(l.map fun x=>(x,AV.unk)).lookup y=none:=fun l=>by
    induction l with
    | nil=>right;rfl
    | cons z l ih =>
     simp only[List.map_cons,List.lookup_cons]
     cases y==z with
     | true=>left;rfl
     | false=>exact ih
   have hlast:match (rest.map fun x=>(x,AV.unk)).lookup y with | some a=>a ≠ .unk→∃v,(none:Option Value)=some v∧VR π₁ (σ++cvs.map AO.cell).length a v | none=>True:=by
    rcases hrest rest with q | q<;>rw[q]
    ·exact fun q=>(q rfl).elim
    ·trivial
   cases hlo:(fd.scope.names.lookup y==some NameKind.local) with
   | false =>
    simp only[Bool.false_eq_true,if_false,Option.none_or]
    rcases hrest rest with q | q<;>rw[q]<;>first | exact fun q=>(q rfl).elim | (show (none:Option Value)=none;rfl) | simp
   | true =>
    simp only[if_true]
    revert hz
    cases h1:(names.zip as).lookup y<;>cases h2:(names.zip vs).lookup y<;>intro hz
    ·simp only[Option.none_or]
     rcases hrest rest with q | q<;>rw[q]<;>first | exact fun q=>(q rfl).elim | (show (none:Option Value)=none;rfl) | simp
    ·exact hz.elim
    ·exact hz.elim
    ·exact fun _=>⟨_,rfl,hz.mono W₁.ext W₁.len⟩
  ·show cellsFrom _ _ _=_
   rw[hcf]
   unfold bi
   rw[List.map_reverse,List.map_map]
   congr 1
   apply List.map_congr_left
   intro p hp
   have hp':=List.mem_zipIdx_iff_getElem?.mp hp
   have hxa:(cs.zipIdx.map fun p=>s.heap.objs.size+1+p.2)[p.2]? = some (s.heap.objs.size+1+p.2):=by
    rw[List.getElem?_map,List.getElem?_zipIdx,hp'];simp
   show _=(p.1,π₁.a (σ.length+p.2))
   rw[ea _ _ hxa]
  ·obtain⟨i,h1,h2⟩:=gV hp
   have:=(List.getElem?_eq_some_iff.mp h1).1
   rw[h2]
   subst hcv
   simp
   assumption
 rcases h with⟨f,lv',σ',x,k'⟩ | ⟨i,lv',σ',x,hi,k'⟩
 ·refine .inl ⟨_,_,fun A R=>fun π s fv vs S hf hv Q E hq=>?_,k'⟩
  subst hf
  refine dk (enter A R π s vs S hv _ fun s₁ π₁ S₁ W₁ hL=>?_)
  refine x _ (ok A R _) π₁ s₁ S₁ _ _ fun π' s' fl S' W' R'=>?_
  obtain⟨B1,B2⟩:=j8 rfl S W₁ hL S'.c W' (fun b hb=>by rw[hb];exact hL)
  cases f with
  | ret a'=>obtain⟨v,rfl,hv'⟩:=R';exact hq π' s' v B1 B2 hv'
  | next=>have:fl = .next:=R';subst this;exact hq π' s' .none B1 B2 rfl
  | brk=>have:fl = .brk:=R';subst this;exact hq π' s' .none B1 B2 rfl
  | cont=>have:fl = .cont:=R';subst this;exact hq π' s' .none B1 B2 rfl
 ·obtain⟨D',j,hx⟩:=id hi
  refine .inr ⟨_,_,fun A R=>fun π s fv vs S hf hv Q E hq=>?_,hi,k'⟩
  subst hf
  refine dk (enter A R π s vs S hv _ fun s₁ π₁ S₁ W₁ hL=>?_)
  refine x _ (ok A R _) π₁ s₁ S₁ _ _ fun π' s' S' W' R'=>?_
  obtain⟨fs,f1,_⟩:=S.frs
  have hfr:(A.deeper (callEnvC fd s.heap.objs.size a)).frames=some (callEnvC fd s.heap.objs.size a::fs):=by show (A.frames.map _)=_;rw[f1];rfl
  have back:=S'.backL W'
  unfold leaving
  refine ae (xj (h₀:=s₁.heap) S'.c hfr rfl hx R' back fun s'' S'' ⟨X,hX,W''⟩ R''=>?_)
  have WW:=W'.absorb W'' hX fun b hb=>by rw[hb];exact S'.trL
  obtain⟨B1,B2⟩:=j8 (A:=A) rfl S W₁ hL S'' WW (fun b hb=>by rw[hb];exact hL)
  exact hq π' s'' B1 B2 (R''.older (cZ fun b o e=>(by
   by_cases t:Tr π σ b
   ·exact S₁.c.rep.there (W₁.stay b t)
   ·obtain⟨_,sl,e'⟩:=W₁.kept b o t id e;exact⟨_,e'⟩)))
noncomputable def ni (fd:FuncData) (ls gs names:List Str):Bool :=
 fd.scope.kind == .function && (!fd.scope.isCoroutine && (!fd.scope.isGenerator && ((ls.all fun x=>fd.scope.names.lookup x==some .local) && ((gs.all fun x=>fd.scope.names.lookup x==some .globalImplicit) && (decide names.Nodup && (fd.closure.isEmpty && (Nat.beq fd.globals mainGlobals && Nat.beq fd.builtins builtinsNs)))))))
noncomputable def yW (fd:FuncData) (names ls gs rest:List Str):Bool :=
 ni fd ls gs names && ((fd.scope.names.all fun x=>x.2 != .cell) && ((names.all fun x=>fd.scope.names.lookup x==some .local) && ls==names++rest))
noncomputable def yV (fd:FuncData) (names ls cs gs:List Str):Bool :=
 ni fd ls gs names && ((cs.all fun x=>fd.scope.names.lookup x==some .cell) && ((names.all fun x=>fd.scope.names.lookup x==some .local || (fd.scope.names.lookup x==some .cell && cs.contains x)) && decide cs.Nodup))
theorem mu (h:ni fd ls gs names=true):fd.scope.kind = .function∧fd.scope.isCoroutine=false∧fd.scope.isGenerator=false∧(ls.all fun x=>fd.scope.names.lookup x==some .local)=true∧(gs.all fun x=>fd.scope.names.lookup x==some .globalImplicit)=true∧names.Nodup∧fd.closure=[]∧fd.globals=mainGlobals∧fd.builtins=builtinsNs:=by
 unfold ni at h
 simp only[Bool.and_eq_true] at h
 exact⟨eq_of_beq h.1,Bool.not_eq_true' _ ▸ h.2.1,Bool.not_eq_true' _ ▸ h.2.2.1,h.2.2.2.1,h.2.2.2.2.1,of_decide_eq_true h.2.2.2.2.2.1,List.isEmpty_iff.mp h.2.2.2.2.2.2.1,Nat.eq_of_beq_eq_true h.2.2.2.2.2.2.2.1,Nat.eq_of_beq_eq_true h.2.2.2.2.2.2.2.2⟩
theorem ch (names ls gs rest:List Str) (k:Nat) {K:KA} (D:DefAt G a fd) (hs:yW fd names ls gs rest=true) (hb:fd.body = .stmts body)
  (hbind:∀vs:List Value,vs.length=names.length→bindArgs fd ⟨vs,[]⟩=pure (names.zip vs)) (hn:as.length=names.length) (hlv:(names.zip as++rest.map fun x=>(x,.unk))=lv)
  (h:eQ G (iN fd ls gs k) lv σ body (fun f _ σ'=>K (dS f) σ') (fun i _ σ'=>X i σ')):CtP G (k+1) σ (.base a) as K X:=by
 (refine bD (Bool.and_eq_true_iff.mp hs) fun h1 h2=>?_)
 (refine bD (Bool.and_eq_true_iff.mp h2) fun h3 h4=>?_)
 (refine bD (Bool.and_eq_true_iff.mp h4) fun h5 h6=>?_)
 (refine iV (mu h1) fun a1 a2 a3 a4 a5 a6 a7 a8 a9=>?_)
 exact ye D ⟨a1,a2,a3,a4,a5,h3,h5,a6,a7,a8,a9⟩ hb hbind hn (eq_of_beq h6) hlv h
theorem ic (names ls cs gs rest:List Str) (k:Nat) {K:KA} (D:DefAt G a fd) (hs:yV fd names ls cs gs=true)
  (hc:∀c,cellsFrom c fd.scope.names []=(cs.zipIdx.map fun p=>(p.1,c+p.2)).reverse) (hb:fd.body = .stmts body)
  (hbind:∀vs:List Value,vs.length=names.length→bindArgs fd ⟨vs,[]⟩=pure (names.zip vs)) (hn:as.length=names.length)
  (hlv:((names.zip as).filter (fun p=>fd.scope.names.lookup p.1==some .local))++rest.map (fun x=>(x,.unk))=lv) (hcv:cs.map (fun x=>(names.zip as).lookup x)=cvs)
  (h:eQ G (fM fd ls cs gs σ.length k) lv (σ++cvs.map .cell) body (fun f _ σ'=>K (dS f) σ') (fun i _ σ'=>X i σ')):CtP G (k+1) σ (.base a) as K X:=by
 (refine bD (Bool.and_eq_true_iff.mp hs) fun h1 h2=>?_)
 (refine bD (Bool.and_eq_true_iff.mp h2) fun h3 h4=>?_)
 (refine bD (Bool.and_eq_true_iff.mp h4) fun h5 h6=>?_)
 (refine iV (mu h1) fun a1 a2 a3 a4 a5 a6 a7 a8 a9=>?_)
 exact wj D ⟨a1,a2,a3,a4,h3,a5,h5,hc,a6,of_decide_eq_true h6,a7,a8,a9⟩ hb hbind hn hlv hcv h
end
section
variable {G:Gd} {F:Fx} {A:Around} {C:Cx} {lv lv' lv₁ lv₂:LV} {σ σ' σ₁ σ₂ σ₃:LA} {π π' π₁:PM} {s s' s₁:Shared}
theorem o1 {K:KA} (h:∀A,wJ G A σ t a r σ') (k:K r σ'):qA G C σ t a K:=⟨_,_,fun _ _=>h _,k⟩
theorem o2 {K:KA} (h:∀A,fy G A σ t a b r σ') (k:K r σ'):ib G C σ t a b K:=⟨_,_,fun _ _=>h _,k⟩
theorem xe {K:KA} (h:∀A,Sub G A σ sl a b r σ') (k:K r σ'):lj G C σ sl a b K:=⟨_,_,fun _ _=>h _,k⟩
theorem od {K:LA→Prop} (h:∀A,tC G A σ t a b c σ') (k:K σ'):jT G C σ t a b c K:=⟨_,fun _ _=>h _,k⟩
theorem ot {K:KZ} (h:∀A,xy G A σ a b σ') (k:K b σ'):vl G C σ a K:=⟨_,_,fun _ _=>h _,k⟩
theorem og {K:AV→List AV→Prop} (h:∀A,Gm G A σ o name f first) (k:K f first):pC G C σ o name K:=⟨_,_,fun _ _=>h _,k⟩
theorem ok (h:∀A,nZ G A σ f):nX G C σ f:=fun _ _=>h _
theorem oc {K:KA} (h:∀A,Cl G A σ f as r σ') (k:K r σ'):kd G C σ f as K:=⟨_,_,fun _ _=>h _,k⟩
theorem BH {K:KA} (hn:C.n=some n) (h:∀A,Rm A n→Cl G A σ f as r σ') (k:K r σ'):kd G C σ f as K:=⟨_,_,fun _ c=>h _ (c.rm n hn),k⟩
theorem BG {K:KA} (h:kd G C σ f as K):wx G C σ f as K X := .inl h
theorem z8 (hk:F.env.scope.kind = .function) (hl:F.env.kindOf x=some .cell) (hc:F.cl.lookup x=some i) (hi:σ[i]? = some (.cell v)):As G F lv σ (.Name x pos) a lv (σ.set i (.cell (some a))):=fun π s u S hv Q E h=>by
 show aS G.M F.A (do standAt pos;bindName F.env x u) Q E s
 have hc':F.env.cells.lookup x=some (π.a i):=by rw[S.cells.1];exact j3 π hc
 (refine aF (S.c.rep.at_ i _ hi) fun u₀ h1 h2=>?_)
 refine ae (bz (eR (bn (wpAny_storeName_cell hk hl hc' h1 fun h' hc2 hs=>?_))))
 (refine bD (S.c.update (X:=cG) (s':={ s with heap:=h' }) (o' := .cell (some a)) hi rfl (fun b ob hb e=>(hs.2 b fun q=>hb (by rw[q];simp[own])).trans e) ⟨some u,hc2,hv⟩ rfl rfl) fun C₁ W₁=>?_)
 exact h π _ (S.fwd C₁ W₁) W₁.toX
theorem yo {K:KV} (ho:C.own=true) (h:C.cs.contains (Str.ofString x)=true) (hc:C.cl.lookup (Str.ofString x)=some i) (hi:σ[i]? = some (.cell v)) (k:K lv (σ.set i (.cell (some a)))):fH G C lv σ (.Name (Str.ofString x) pos) a K :=
 ⟨_,_,fun F c=>z8 c.sc.kind (c.own ho _ h) (by rw[c.cl];exact hc) hi,k⟩
theorem qM {T k:Nat} {K:KA} (hT:σ[T]? = some (.tab P ts))
  (hdef:∀env,defaultsOf params env=([],[])) (hcl:∀ (env:Env) (f:Nat→Addr),env.cells=C.cl.map (fun p=>(p.1,f p.2))→closureFor scope env=pure (cl.map fun p=>(p.1,f p.2))) (hcl2:∀p∈cl,p.2 < σ.length)
  (hf:∀π:PM,codeAmong pos (e8 π ts)=some (.ref (π.a k))) (hk:k < σ.length) (hg:G.g.Ns mainGlobals mg) (hcode:C.code=some (.ref c)) (CH:CodeHd G.g c P) (hb:G.g.BuiltinsAt mg P)
  (k':K (.dyn σ.length) (σ++[.lam params body scope (C.qual ++ "<lambda>") cl k])):cW G C lv σ (.Lambda params body scope pos) K :=
 ⟨_,_,fun F c=>(c.code _ hcode).2 ▸ tm hT hdef (fun env f h=>hcl env f (by rw[← c.cl];exact h)) hcl2 hf hk c.sc.globals hg (c.code _ hcode).1 CH hb,k'⟩
theorem qL {K:KA} (hT:σ[T]? = some (.tab P ts))
  (hdef:∀env,defaultsOf params env=([],[])) (hcl:∀ (env:Env) (f:Nat→Addr),env.cells=C.cl.map (fun p=>(p.1,f p.2))→closureFor scope env=pure (cl.map fun p=>(p.1,f p.2))) (hcl2:∀p∈cl,p.2 < σ.length)
  (hf:∀π:PM,codeAmong pos (e8 π ts)=none) (hg:G.g.Ns mainGlobals mg) (hgP:mainGlobals≠P) (hcode:C.code=some (.ref c)) (CH:CodeHd G.g c P) (hb:G.g.BuiltinsAt mg P)
  (k':K (.dyn (σ.length+1)) (σ.set T (.tab P (ts++[((pos.line:Int),(pos.col:Int),σ.length)]))++[.code (C.qual ++ "<lambda>"),.lam params body scope (C.qual ++ "<lambda>") cl σ.length])):cW G C lv σ (.Lambda params body scope pos) K :=
 ⟨_,_,fun F c=>(c.code _ hcode).2 ▸ tj hT hdef (fun env f h=>hcl env f (by rw[← c.cl];exact h)) hcl2 hf c.sc.globals hg hgP (c.code _ hcode).1 CH hb,k'⟩
noncomputable abbrev yI (cs gs:List Str) (cl:List (Str×Nat)) (k:Nat):Cx:=⟨[],cs,gs,cl,some k,none,default,false⟩
theorem fG {K:KA} (hi:σ[i]? = some (.lam params body scope qual cl k)) (hk:σ[k]? = some (.code qual)) (lim:G.g.NoLimit) (K0:LamOk scope cs gs)
  (hbind:∀clos pm cv ctv,bindArgs (kla_fn "<lambda>" qual params body scope clos pm cv ctv) ⟨[],[]⟩=pure []) (h:lC G (yI cs gs cl n) [] σ body K X):CtP G (n+1) σ (.dyn i) [] K X:=by
 have ok:∀F:Fx,Sc F [] cs gs→Fm F→F.cl=cl→Rm F.A n→(yI cs gs cl n).Ok F:=fun F SC FM hcl R=>⟨SC,FM,hcl,fun m hm=>(by cases hm;exact R),fun c h=>(by cases h),fun h=>(by cases h)⟩
 rcases h with⟨r,σ',x,k'⟩ | ⟨e,σ',x,he,k'⟩
 ·exact .inl ⟨r,σ',fun A R=>zZ hi hk lim R K0 hbind fun F SC FM hcl R'=>x F (ok F SC FM hcl R'),k'⟩
 ·(refine bC (id he) fun D' j hx=>?_)
  exact .inr ⟨e,σ',fun A R=>yj hi hk lim R K0 hbind hx fun F SC FM hcl R'=>x F (ok F SC FM hcl R'),he,k'⟩
theorem yi (P:PCls G.g D N [.type "object"]) (hi:G.g.nsMap N "__init__" = some (.ref fI)) (hfo:∃o,G.g.get? fI=some o∧o.cls = .type "function")
  (z:yk G (inNew A) (σ++[.inst D []]) (.base fI) (.dyn σ.length::as) i σ'):yk G A σ (.base D) as i σ':=fun π s fv vs S hf hv Q E h=>by
 subst hf
 (refine cu (P.obj) fun nm q bs sn sub col dd k0 k1 k2 k3 k5 nid hC hnid=>?_)
 (refine aF hfo fun of hfo hfc=>?_)
 cases hnid rfl
 obtain⟨hp,g,d,t,os⟩:=s
 refine i6 F.objNew (S.keepg _ _ hC) (P.ns.keeps S.keepg) hi (S.keepg _ _ hfo) hfc fun h' x dx hm=>?_
 rw[jC]
 (refine fc (id hm.inst) fun ox o1 o2 o3 o4=>?_)
 obtain⟨π',C',W',e1,e2⟩:=S.alloc (X:=cG) (s':=⟨h',g,d,t,os⟩) (ao := .inst D []) x dx hm.keeps hm.newX hm.newD (fun π' e e1 e2=>by
  rcases o4 with⟨q,_⟩ | ⟨dq,q1,q2,q3⟩
  ·rw[hm.dict _ o1] at q;cases q
  ·have:dq=dx:=by rw[hm.dict _ o1] at q1;exact(Option.some.inj q1).symm
   subst this
   exact⟨ox,_,by rw[e1];exact o1,o2,o3,by rw[e2];exact q1,by rw[e1,e2];exact q2,by rw[e2];exact q3,fun x=>rfl⟩) rfl rfl
 refine z π' _ _ _ (C'.reA rfl) rfl (.cons ⟨by simp,by rw[e1]⟩ (hv.mono W'.ext W'.len)) _ E fun π₂ s₂ C₂ W₂ R₂=>?_
 exact h π₂ s₂ (C₂.reA rfl) (W'.transN (W₂.reA rfl)) (R₂.older (W'.back C'))
theorem rH {K:KA} (P:PCls G.g D N [.type "object"]) (hi:G.g.nsMap N "__init__" = some (.ref fI)) (hfo:∃o,G.g.get? fI=some o∧o.cls = .type "function")
  (z:CtP G k (σ++[.inst D []]) (.base fI) (.dyn σ.length::as) (fun r σ'=>r = .none∧K (.dyn σ.length) σ') X):CtP G (k+1) σ (.base D) as K X:=by
 rcases z with⟨r,σ',x,rfl,k'⟩ | ⟨i,σ',x,hx,k'⟩
 ·exact .inl ⟨_,_,fun A R=>zW P hi hfo (x _ R.inNew),k'⟩
 ·exact .inr ⟨_,_,fun A R=>yi P hi hfo (x _ R.inNew),hx,k'⟩
theorem vP {K:KF}
  (P:ECls G.g D N) (B:Bs G gt bt) (hg:C.gs.contains (Str.ofString te)=true) (hv:gt.lookup (Str.ofString te)=some (.base D)) (hd:te ≠ "__debug__") (hx:C.ls.contains (Str.ofString x)=true)
  (h:eQ G C lv σ body K fun i lv₁ σ₁=>(∃j,σ₁[i]? = some (.exc D j false))∧eQ G C.inH (put (Str.ofString x) (.dyn i) lv₁) σ₁ (b₀::suite) (fun f lv₂ σ₂=>K f (put (Str.ofString x) .unk lv₂) σ₂) fun _ _ _=>False) :
  jS G C lv σ (.Try body [.ExceptHandler (some (.Name (Str.ofString te) tp)) (some (Str.ofString x)) (b₀::suite) hpos] [] [] pos) K X:=by
 rcases h with⟨f,lv₁,σ₁,y,k⟩ | ⟨i,lv₁,σ₁,y,_,⟨j,hj⟩,z⟩
 ·exact .inl ⟨_,_,_,fun F c=>vK (y F c),k⟩
 ·rcases z with⟨f,lv₂,σ₂,z,k⟩ | ⟨_,_,_,_,_,k⟩
  ·exact .inl ⟨_,_,_,fun F c=>xL P c.sc c.fm (c.sc.loc _ hx) (y F c) hj (fun h=>qK (c.sc.mark) B hg hv hd) (fun h=>z _ (c.mark h)),k⟩
  ·exact k.elim
def qB (G:Gd) (C:Cx) (target:Expr) (body:List Stmt) (ok:LA→Prop) (xs:List AV) (k:Nat) (lv:LV) (σ:LA) (K:KF):Prop :=
 ∃f lv' σ',(∀F,C.Ok F→Lp G F target body ok xs k lv σ f lv' σ')∧K f lv' σ'
section
variable {target:Expr} {body:List Stmt} {okk:LA→Prop} {xs:List AV} {k:Nat} {K:KF} {X:KX}
theorem ei (h:k=xs.length) (ho:okk σ) (k':K .next lv σ):qB G C target body okk xs k lv σ K:=⟨_,_,_,fun _ _ => .done h ho,k'⟩
def C1 (G:Gd) (C:Cx) (target:Expr) (body:List Stmt) (ok:LA→Prop) (xs:List AV) (k:Nat) (K:KF) (f:AFl) (lv:LV) (σ:LA):Prop:=match f with
 | .next=>∃lw,Wk lv lw∧qB G C target body ok xs k lw σ K
 | .cont=>∃lw,Wk lv lw∧qB G C target body ok xs k lw σ K
 | .brk=>K .next lv σ
 | .ret a=>K (.ret a) lv σ
theorem eI (hx:xs[k]? = some a) (ho:okk σ) (h:fH G C lv σ target a fun lv₁ σ₁=>eQ G C lv₁ σ₁ body (C1 G C target body okk xs (k+1) K) fun _ _ _=>False):qB G C target body okk xs k lv σ K:=by
 (refine ci h fun lv₁ σ₁ x y=>?_;clear h)
 rcases y with⟨f,lv₂,σ₂,y,z⟩ | ⟨_,_,_,_,_,k'⟩
 ·cases f with
  | next=>(refine k8 z fun lw w f lv₃ σ₃ z k'=>?_);exact⟨_,_,_,fun F c => .step hx ho (x F c) (y F c) (.inl rfl) w (z F c),k'⟩
  | cont=>(refine k8 z fun lw w f lv₃ σ₃ z k'=>?_);exact⟨_,_,_,fun F c => .step hx ho (x F c) (y F c) (.inr rfl) w (z F c),k'⟩
  | brk=>exact⟨_,_,_,fun F c => .brk hx ho (x F c) (y F c),z⟩
  | ret a=>exact⟨_,_,_,fun F c => .ret hx ho (x F c) (y F c),z⟩
 ·exact k'.elim
theorem eJ (hn:C.n=some n) (h:cW G C lv σ iter fun x σ₁=>∃xs ok,(∀A,A.handled=none→vA G A σ₁ x xs ok)∧qB G C target body ok xs 0 lv σ₁ K)
  (hs:∀env x,foldedSetIterable iter env x=pure x:=by intro _ _;rfl):jS G C lv σ (.For target iter body [] pos) K X:=by
 (refine nH h fun x σ₁ ev xs ok it f lv₂ σ₂ lp k'=>?_;clear h)
 exact .inl ⟨_,_,_,fun F c=>xP (ev F c) (it _ (c.nh hn)) (lp F c) hs,k'⟩
end
end
section
variable {G:Gd} {F:Fx} {A:Around} {C:Cx} {lv lv' lv₁ lv₂:List (Str×AV)} {σ σ' σ₁ σ₂ σ₃:List AO} {π π' π₁:PM} {s s' s₁:Shared}
theorem t8 {T id:String} (hT:s.TypeIs o T)
  (hl:typeLookup (.type T) "__getitem__" = pure (some (.builtin id))) (hg:aS G.M A (getItem o i) Q E s) (hs:subscripted slice false o i=operate ops (getItem o i)):aS G.M A (subscriptTail value slice o i) Q E s:=by
 unfold subscriptTail
 refine ae ?_
 rw[getitemInPython_of_ne hT.not_modules]
 refine ae (bn (wpAny_specialOf hT hl ?_))
 have fin:aS G.M A (subscripted slice false o i) (fun r s₃=>aS G.M A (letTemporaryGo value o r >>= fun _=>pure r) Q E s₃) E s:=by
  rw[hs]
  exact eB (bb hg (fun r s₃ h₃=>ae (bn (wpAny_letTemporaryGo (ak h₃)))) fun _ _ x=>x)
 first
  | exact ak (ae fin)
  | exact ae (ak (ae fin))
  | exact ae fin
theorem kf {Q:Value→Shared→Prop} (S:StC g A σ π s) (hk:∀b o,s.heap.get? b=some o→h'.get? b=some o) (hx:s.heap.get? x=none)
  (hr:∀π':PM,π.Ext π' σ.length→π'.a σ.length=x→ORep π' (σ.length+1) h' σ.length ao)
  (hq:∀π' s' v,StC g A (σ++[ao]) π' s'→Fwd A cG σ π s (σ++[ao]) π' s'→VR π' (σ++[ao]).length (.dyn σ.length) v→Q v s'):Q (.ref x) { s with heap:=h',toks:=k }:=by
 (refine fc (S.alloc (X:=cG) (s':={ s with heap:=h',toks:=k }) (ao:=ao) x x hk hx hx (fun π' e e1 _=>hr π' e e1) rfl rfl) fun π' C' W' e1 _=>?_)
 exact hq π' _ _ C' W' ⟨by simp,by rw[e1]⟩
theorem tN (h0:0≤n) (h1:n≤16777216):Cl G A σ (.type "bytearray") [.int n] (.dyn σ.length) (σ++[.barr (List.replicate n.toNat 0)]):=fun π s fv vs S hf hv Q E hq=>by
 subst hf
 cases hv with
 | cons hx hr =>
  cases hr
  (refine b8 hx fun t zz4=>?_;clear hx;subst zz4)
  refine By.call_of_int h0 (by rw[sizeLine_eq];lia) fun h' a hn e k=>kf (k:=s.toks) S k hn (fun π' _ e1=>?_) hq
  show h'.get? _=_
  rw[e1,e];simp
theorem tM:Cl G A σ (.type "bytearray") [] (.dyn σ.length) (σ++[.barr []]):=fun π s fv vs S hf hv Q E hq=>by
 subst hf
 cases hv
 exact By.call_of_nothing fun h' a hn e k=>kf (k:=s.toks) S k hn (fun π' _ e1=>by show h'.get? _=_;rw[e1,e]) hq
theorem tL (hi:σ[i]? = some (.barr b)) (hn:b.length < 2 ^ 63):Cl G A σ (.builtin "len") [.dyn i] (.int b.length) σ:=fun π s fv vs S hf hv Q E hq=>by
 subst hf
 cases hv with
 | cons h1 h2 =>
  cases h2
  (refine bD h1 fun _ zz6=>?_;clear h1;subst zz6)
  (refine bD (S.toks (X:=cG) (s.toks+1+1)) fun C W=>?_)
  exact bn (By.len_ba (S.rep.at_ i _ hi) hn (hq π _ _ C W ⟨_,rfl⟩))
theorem om (hn:b.length≤1099511627776):Cl G A σ (.builtin "len") [.bytes b] (.int b.length) σ:=fun π s fv vs S hf hv Q E hq=>by
 subst hf
 cases hv with
 | cons h1 h2 =>
  cases h2
  (refine b8 h1 fun _ zz7=>?_;clear h1;subst zz7)
  (refine bD (S.toks (X:=cG) (s.toks+1+1)) fun C W=>?_)
  exact bn (len_bytes (by simpa using hn) (hq π _ _ C W ⟨s.toks+1,by simp⟩))
theorem lB {lo hi:Option Expr} (x:∀e,lo=some e→Ev G F lv σ e a σ₁) (y:∀e,hi=some e→Ev G F lv σ₁ e b σ₂) (hx:match lo with | some _=>∃k,a = .int k∧i=some k | none=>σ₁=σ∧i=none) (hy:match hi with | some _=>∃k,b = .int k∧j=some k | none=>σ₂=σ₁∧j=none) :
  Ev G F lv σ (.Slice lo hi none p) (.dyn σ₂.length) (σ₂++[.slc i j]):=fun π s S Q E h=>by
 rw[arm_eval_Slice]
 refine ae (bb (Q:=fun l s₁=>∃π₁,StC G.g F.A σ₁ π₁ s₁∧Fwd F.A cG σ π s σ₁ π₁ s₁∧fh i l) (E:=E) ?_ (fun l s₁ ⟨π₁,C₁,W₁,p₁⟩=>?_) fun _ _ z=>z)
 ·cases lo with
  | none=>(refine bD hx fun zz8 zz9=>?_;clear hx;subst zz8;subst zz9);exact ak ⟨π,S.c,S.c.same,rfl⟩
  | some e=>(refine aF hx fun k zz10 zz11=>?_;clear hx;subst zz10;subst zz11);exact x e rfl π s S _ _ fun π₁ s₁ v C₁ W₁ R₁=>⟨π₁,C₁,W₁,R₁⟩
 refine ae (aq (bb (Q:=fun l s₂=>∃π₂,StC G.g F.A σ₂ π₂ s₂∧Fwd F.A cG σ π s σ₂ π₂ s₂∧fh j l) (E:=E) ?_ (fun u s₂ ⟨π₂,C₂,W₂,p₂⟩=>?_) fun _ _ z=>z))
 ·cases hi with
  | none=>(refine bD hy fun zz13 zz14=>?_;clear hy;subst zz13;subst zz14);exact ak ⟨π₁,C₁,W₁,rfl⟩
  | some e=>(refine aF hy fun k zz15 zz16=>?_;clear hy;subst zz15;subst zz16);exact y e rfl π₁ s₁ (S.fwd C₁ W₁) _ _ fun π₂ s₂ v C₂ W₂ R₂=>⟨π₂,C₂,W₁.transN W₂,R₂⟩
 refine ae (aq (ak ?_))
 refine bn (wpAny_newObj_type ?_)
 refine kf (ao := .slc i j) (k:=s₂.toks) C₂ bw (aC _) (fun π' _ e1=>⟨l,u,p₁,p₂,by rw[e1];exact Heap.get?_push_size _ rfl⟩) fun π' s' v C' W' R'=>h π' s' v C' (W₂.transN W') R'
theorem nR {lo hi:Option Int} (hi':σ[i]? = some (.barr b)) (hj:σ[j]? = some (.slc lo hi)) (hz:b.length≤16777216)
  (hs:∀o i,subscripted slice false o i=operate [i,o] (getItem o i):=by intro _ _;with_unfolding_all rfl):Sub G A σ slice (.dyn i) (.dyn j) (.dyn σ.length) (σ++[.barr (cut b lo hi)]):=fun value π s v u S hv hu Q E hq=>by
 (refine bD hv fun _ zz18=>?_;clear hv;subst zz18)
 (refine bD hu fun _ zz19=>?_;clear hu;subst zz19)
 (refine cy (S.rep.at_ j _ hj) fun l u p₁ p₂ ho=>?_)
 have hb:=S.rep.at_ i _ hi'
 exact t8 (By.typeIs hb) By.slot_get.lookup (By.get_slice hb ho p₁ p₂ (by rw[sizeLine_eq];exact hz) (kf (k:=s.toks) S bw (aC _) (fun π' _ e1=>by show _=_;rw[e1];exact Heap.get?_push_size _ rfl) hq)) (hs _ _)
theorem pq (hi':σ[i]? = some (.barr b)) (h0:0≤k) (h1:k < 2 ^ 63) (hx:b[k.toNat]? = some x)
  (hs:∀o i,subscripted slice false o i=operate [o,i] (getItem o i):=by intro _ _;with_unfolding_all rfl):Sub G A σ slice (.dyn i) (.int k) (.int x.toNat) σ:=fun value π s v u S hv hu Q E hq=>by
 (refine bD hv fun _ zz23=>?_;clear hv;subst zz23)
 (refine b8 hu fun t zz24=>?_;clear hu;subst zz24)
 have hb:=S.rep.at_ i _ hi'
 (refine bD (S.toks (X:=cG) (s.toks+1)) fun C W=>?_)
 exact t8 (By.typeIs hb) By.slot_get.lookup (By.get_item hb h0 h1 hx (hq π _ _ C W ⟨_,rfl⟩)) (hs _ _)
theorem pI {lo hi:Option Int} (hi':σ[i]? = some (.barr b)) (hj:σ[j]? = some (.slc lo hi)) (hz:b.length+d.length≤16777216) :
  tC G A σ setItem (.dyn i) (.dyn j) (.bytes d) (σ.set i (.barr (b.take (cL b.length lo)++d++b.drop (max (cL b.length lo) (d9 b.length hi))))):=fun π s v u x S hv hu hx Q E hq=>by
 (refine bD hv fun _ zz25=>?_;clear hv;subst zz25)
 (refine bD hu fun _ zz26=>?_;clear hu;subst zz26)
 (refine b8 hx fun t zz27=>?_;clear hx;subst zz27)
 (refine cy (S.rep.at_ j _ hj) fun l u p₁ p₂ ho=>?_)
 have hb:=S.rep.at_ i _ hi'
 refine By.set_slice hb ho p₁ p₂ (by rw[sizeLine_eq];exact q2 0 0 0 16777216 0 16777216 (Nat.le_add_left _ _) hz rfl) (by rw[sizeLine_eq];exact hz) fun h' e k=>?_
 (refine bD (S.update (X:=cG) (s':={ s with heap:=h' }) (o' := .barr (b.take (cL b.length lo)++d++b.drop (max (cL b.length lo) (d9 b.length hi)))) hi' rfl (fun c ob hc eo=>k c ob (fun q=>hc (by rw[q];simp[own])) eo) e rfl rfl) fun C' W'=>?_)
 exact hq π _ C' W'
theorem Bu (hi:σ[i]? = some (.barr b)) (slot:Slot "bytearray" name mid) (hty:typeOf (.builtin mid)=pure (.type "method_descriptor")) (pa:PlainAttrs "bytearray"):Gm G A σ (.dyn i) name (.builtin mid) [.dyn i]:=fun π s v S hv pl Q E hq=>by
 have hv':=hv
 (refine bD hv fun _ zz31=>?_;clear hv;subst zz31)
 have hb:=S.rep.at_ i _ hi
 exact bn (getMethod_builtin (By.typeIs hb) pa slot hty (fun a e=>by cases e;exact⟨_,hb,rfl⟩) (hq s _ _ S S.same rfl (.cons hv' .nil)))
theorem uq:PlainAttrs "bytearray" := ⟨⟨"bytearray.__getattribute__",by rw[typeLookup_type,builtinLookup_eq_fast];kernel_rfl,by decide +kernel⟩,by rw[typeLookup_type,builtinLookup_eq_fast];kernel_rfl⟩
theorem n8 (hi:σ[i]? = some (.barr b)):Gm G A σ (.dyn i) "append" (.builtin "bytearray.append") [.dyn i]:=Bu hi By.slot_append (by show builtinType _=_;rw[builtinType_eq_fast];kernel_rfl) uq
theorem on (hi:σ[i]? = some (.barr b)) (h0:0≤k) (h1:k < 256) (hz:b.length < 16777216):Cl G A σ (.builtin "bytearray.append") [.dyn i,.int k] .none (σ.set i (.barr (b++[k.toNat.toUInt8]))):=fun π s fv vs S hf hv Q E hq=>by
 subst hf
 cases hv with
 | cons hx hr =>
  cases hr with
  | cons hy hr =>
   cases hr
   (refine bD hx fun _ zz32=>?_;clear hx;subst zz32)
   (refine b8 hy fun t zz33=>?_;clear hy;subst zz33)
   have hb:=S.rep.at_ i _ hi
   refine By.append_ba hb h0 h1 (by rw[sizeLine_eq];assumption) fun h' e kk=>?_
   (refine bD (S.update (X:=cG) (s':={ s with heap:=h' }) (o' := .barr (b++[k.toNat.toUInt8])) hi rfl (fun c ob hc eo=>kk c ob (fun q=>hc (by rw[q];simp[own])) eo) e rfl rfl) fun C' W'=>?_)
   exact hq π _ _ C' W' rfl
theorem pN (hi:σ[i]? = some (.barr b)) (hz:b.length≤16777216):Cl G A σ (.type "bytes") [.dyn i] (.bytes b) σ:=fun π s fv vs S hf hv Q E hq=>by
 subst hf
 cases hv with
 | cons hx hr =>
  cases hr
  (refine bD hx fun _ zz36=>?_;clear hx;subst zz36)
  refine bn (By.bytes_of_ba (S.rep.at_ i _ hi) (by rw[sizeLine_eq];simpa using hz) fun t k=>?_)
  (refine bD (S.toks (X:=cG) k) fun C W=>?_)
  exact hq π _ _ C W ⟨_,rfl⟩
noncomputable def cc (ns:List Int):List UInt8:=ns.map fun n=>n.toNat.toUInt8
theorem jj:∀ {ns:List Int} {vs:List Value},VRs π n (ns.map AV.int) vs→IntsAre vs ns
 | [],_,h=>by cases h;exact .nil
 | k::ns,_,h=>by
  cases h with
  | cons h1 h2=>(refine b8 h1 fun t zz37=>?_;clear h1;subst zz37);exact IntsAre.cons _ _ (jj h2)
theorem md (hh:A.handled=none) (hi:σ[i]? = some (.list (ns.map .int))) (hr:∀n∈ns,0≤n∧n < 256) (hz:ns.length≤16777216):Cl G A σ (.type "bytes") [.dyn i] (.bytes (cc ns)) σ:=fun π s fv vs S hf hv Q E hq=>by
 subst hf
 cases hv with
 | cons hx hr' =>
  cases hr'
  (refine bD hx fun _ zz38=>?_;clear hx;subst zz38)
  (refine aF (S.rep.at_ i _ hi) fun vs hl hvs=>?_)
  have hI:=jj hvs
  refine bn (call_bytes_ints hl.isList hI hr (by rw[hI.length,sizeLine_eq];exact hz) hh fun h' t k hk=>?_)
  (refine bD (S.keeps (X:=cG) (s':={ s with heap:=h',toks:=k }) hk rfl rfl) fun C W=>?_)
  exact hq π _ _ C W ⟨t,rfl⟩
theorem vt:fy G A σ (compareOp .NotEq) (.bytes b) (.bytes c) (.bool (b != c)) σ:=fun π s v u S hv hu Q E hq=>by
 (refine b8 hv fun _ zz42=>?_;clear hv;subst zz42)
 (refine b8 hu fun _ zz43=>?_;clear hu;subst zz43)
 exact bn (ne_bytes (hq π _ _ S S.same rfl))
theorem vY:Ev G F lv σ (.Constant (.bytes x) k pos) (.bytes x) σ:=fun π s S Q E h=>by
 (refine bD (S.c.toks (X:=cG) (s.toks+1)) fun C W=>?_)
 exact bn (Constant_bytes (h π _ _ C W ⟨_,rfl⟩))
end
section
variable {G:Gd} {F:Fx} {A:Around} {C:Cx} {lv lv' lv₁ lv₂:List (Str×AV)} {σ σ' σ₁ σ₂ σ₃ σ₄:List AO} {π π' π₁:PM} {s s' s₁:Shared}
def BV (G:Gd) (A:Around) (σ:List AO) (o:AV) (name:Str) (f:AV) (first:List AV) (σ':List AO):Prop :=
 ∀π s v,StC G.g A σ π s→VR π σ.length o v→∀pl (Q:Value×List Value→Shared→Prop) E,
  (∀π' s' fv fs,StC G.g A σ' π' s'→Fwd A cG σ π s σ' π' s'→VR π' σ'.length f fv→VRs π' σ'.length first fs→Q (fv,fs) s')→aS G.M A (getMethod v name pl) Q E s
theorem vS (x:Ev G F lv σ o ov σ₁) (m:BV G F.A σ₁ ov name fv first σ₂) (y:tR G F lv σ₂ args as σ₃) (k:nZ G F.A σ₃ fv) (z:Cl G F.A σ₃ fv (first++as) r σ₄)
  (hb:∀env,attributeBase o name env (eval o env)=eval o env:=by intro _;rfl)
  (hfew:∀env,methodCallForm (args.length+([]:List Keyword).length) (backTo pos (starEach args env)) (backToKw pos (keywordEach [] env))=true:=by intro _;rfl)
  (hline:(apos.endLine==pos.line)=true:=by rfl)
  (hp:∀env,(backTo pos (starEach args env)).any (·.1)=false:=by intro _;rfl):Ev G F lv σ (.Call (.Attribute o name apos) args [] pos) r σ₄:=fun π s S Q E h=>by
 rw[arm_eval_Call,hb]
 refine ae (x π s S _ E fun π₁ s₁ v₁ C₁ W₁ R₁=>ae (bz ?_))
 unfold methodCall
 rw[hfew]
 refine ae (aq ?_)
 show aS G.M F.A (getMethod v₁ name _) _ E s₁
 refine m π₁ s₁ v₁ C₁ R₁ _ _ E fun π₂ s₂ f₂ fs₂ C₂ W₂ Rf Rs=>?_
 have hpos:methodCallPos true o F.env apos pos=pure pos:=by
  unfold methodCallPos
  rw[if_pos (by rw[hline];rfl)]
 rw[hpos]
 refine ae (ak ?_)
 have W:=W₁.transN W₂
 refine ee (hp _) (y pos π₂ s₂ (S.fwd C₂ W) _ E fun π₃ s₃ vs C₃ W₃ R₃=>⟨k π₃ s₃ _ C₃ (Rf.mono W₃.ext W₃.len),?_⟩)
 exact z π₃ s₃ _ _ C₃ (Rf.mono W₃.ext W₃.len) ((Rs.mono W₃.ext W₃.len).append R₃) Q E fun π₄ s₄ v₄ C₄ W₄ R₄=>h π₄ s₄ v₄ C₄ ((W.transN W₃).transN W₄) R₄
theorem zA:BV G A σ (.type "int") "from_bytes" (.dyn σ.length) [] (σ++[.obj KFB.bound]):=fun π s v S hv pl Q E hq=>by
 subst hv
 refine bn (By.getm_fb ?_)
 obtain⟨π',C',W',e1,_⟩:=S.alloc (X:=cG) (s':={ s with heap:=s.heap.push KFB.bound,toks:=s.toks+1 }) (ao := .obj KFB.bound) s.heap.objs.size s.heap.objs.size bw (aC _) (aC _) (fun π' e e1 _=>by
  show _=_;rw[e1];exact Heap.get?_push_size _ rfl) rfl rfl
 exact hq π' _ _ _ C' W' ⟨by simp,by rw[e1]⟩ .nil
theorem zv (hi:σ[i]? = some (.obj KFB.bound)):nZ G A σ (.dyn i):=fun π s v S hv=>by
 (refine bD hv fun _ zz1=>?_;clear hv;subst zz1)
 have ho:=S.rep.at_ i _ hi
 refine⟨.machine,fun M A Q E h=>?_⟩
 unfold keeperOf
 refine wpAny_bind (wpAny_load ho ?_)
 simp only[KFB.bound,show (Value.type "builtin_function_or_method" != Value.type "method")=true by decide,if_true,show (Value.type "builtin_function_or_method" == Value.type "builtin_function_or_method" || Value.type "builtin_function_or_method" == Value.type "method-wrapper")=true by decide]
 exact wpAny_pure h
theorem BC (hi:σ[i]? = some (.obj KFB.bound)) (hj:σ[j]? = some (.barr b)) (hl:b.length≤8):Cl G A σ (.dyn i) [.dyn j,.str "little"] (.int (By.le b)) σ:=fun π s fv vs S hf hv Q E hq=>by
 (refine bD hf fun _ zz2=>?_;clear hf;subst zz2)
 cases hv with
 | cons hx hr =>
  cases hr with
  | cons hy hr =>
   cases hr
   (refine bD hx fun _ zz3=>?_;clear hx;subst zz3)
   (refine b8 hy fun t zz4=>?_;clear hy;subst zz4)
   (refine bD (S.toks (X:=cG) (s.toks+1)) fun C W=>?_)
   exact bn (By.call_from (S.rep.at_ i _ hi) (S.rep.at_ j _ hj) hl (hq π _ _ C W ⟨_,rfl⟩))
theorem Bt:Gm G A σ (.int x) "to_bytes" (.builtin "int.to_bytes") [.int x]:=fun π s v S hv pl Q E hq=>by
 (refine b8 hv fun t zz5=>?_;clear hv;subst zz5)
 exact bn (KTBy.method (hq s _ _ S S.same rfl (.cons ⟨t,rfl⟩ .nil)))
theorem BB {k:Nat} (hk:k≤8) (hB:(256:Int) ^ k=B) (h0:0≤x) (h1:x < B):Cl G A σ (.builtin "int.to_bytes") [.int x,.int k,.str "little"] (.bytes (cc (KTBy.little k x))) σ:=fun π s fv vs S hf hv Q E hq=>by
 subst hf
 cases hv with
 | cons hx hr =>
  cases hr with
  | cons hy hr =>
   cases hr with
   | cons hz hr =>
    cases hr
    (refine b8 hx fun t zz6=>?_;clear hx;subst zz6)
    (refine b8 hy fun u zz7=>?_;clear hy;subst zz7)
    (refine b8 hz fun w zz8=>?_;clear hz;subst zz8)
    refine bn (KTBy.to_little hk hB h0 h1 fun b t' k' hb hl=>?_)
    (refine bD (S.toks (X:=cG) k') fun C W=>?_)
    refine hq π _ _ C W ⟨t',?_⟩
    have:b.toList=cc (KTBy.little k x):=by
     rw[← hb];unfold cc KBw.bInts
     rw[List.map_map]
     have:(fun n:Int=>n.toNat.toUInt8)∘(fun c:UInt8=>((c.toNat:Nat):Int))=id:=by funext c;simp
     rw[this,List.map_id]
    rw[← this,Array.toArray_toList]
def Bv (G:Gd) (C:Cx) (σ:List AO) (o:AV) (name:Str) (K:AV→List AV→List AO→Prop):Prop:=∃f first σ',(∀F,C.Ok F→BV G F.A σ o name f first σ')∧K f first σ'
theorem tx {K:AV→List AO→Prop} (h:cW G C lv σ o fun ov σ₁=>Bv G C σ₁ ov name fun fv first σ₂=>gC G C lv σ₂ args fun as σ₃=>nX G C σ₃ fv∧kd G C σ₃ fv (first++as) K)
  (hb:∀env,attributeBase o name env (eval o env)=eval o env:=by intro _;rfl)
  (hfew:∀env,methodCallForm (args.length+([]:List Keyword).length) (backTo pos (starEach args env)) (backToKw pos (keywordEach [] env))=true:=by intro _;rfl)
  (hline:(apos.endLine==pos.line)=true:=by rfl)
  (hp:∀env,(backTo pos (starEach args env)).any (·.1)=false:=by intro _;rfl):cW G C lv σ (.Call (.Attribute o name apos) args [] pos) K:=by
 (refine jL h fun ov σ₁ x fv first σ₂ m as σ₃ y ko r σ₄ z k=>?_;clear h)
 exact⟨r,σ₄,fun F c=>vS (x F c) (m F c) (y F c) (ko F c) (z F c) hb hfew hline hp,k⟩
theorem Dn {K:AV→List AV→List AO→Prop} (h:∀A,BV G A σ o name f first σ') (k:K f first σ'):Bv G C σ o name K:=⟨_,_,_,fun _ _=>h _,k⟩
theorem fq {lo hi:Expr} {K:AV→List AO→Prop} (h:cW G C lv σ lo fun a σ₁=>∃i,a = .int i∧cW G C lv σ₁ hi fun b σ₂=>∃j,b = .int j∧K (.dyn σ₂.length) (σ₂++[.slc (some i) (some j)])):cW G C lv σ (.Slice (some lo) (some hi) none p) K:=by
 (refine nL h fun _ σ₁ x i zz22 _ σ₂ y j zz23 k=>?_;clear h;subst zz22;subst zz23)
 exact⟨_,_,fun F c=>lB (i:=some i) (j:=some j) (fun e he=>by cases he;exact x F c) (fun e he=>by cases he;exact y F c) ⟨i,rfl,rfl⟩ ⟨j,rfl,rfl⟩,k⟩
theorem kc {K:AV→List AO→Prop} (h:cW G C lv σ hi fun b σ₂=>∃j,b = .int j∧K (.dyn σ₂.length) (σ₂++[.slc none (some j)])):cW G C lv σ (.Slice none (some hi) none p) K:=by
 (refine jn h fun _ σ₂ y j zz33 k=>?_;clear h;subst zz33)
 exact⟨_,_,fun F c=>lB (a := .none) (i:=none) (j:=some j) (fun e he=>by cases he) (fun e he=>by cases he;exact y F c) ⟨rfl,rfl⟩ ⟨j,rfl,rfl⟩,k⟩
theorem ka {lo:Expr} {K:AV→List AO→Prop} (h:cW G C lv σ lo fun a σ₁=>∃i,a = .int i∧K (.dyn σ₁.length) (σ₁++[.slc (some i) none])):cW G C lv σ (.Slice (some lo) none none p) K:=by
 (refine jn h fun _ σ₁ x i zz38 k=>?_;clear h;subst zz38)
 exact⟨_,_,fun F c=>lB (b := .none) (i:=some i) (j:=none) (fun e he=>by cases he;exact x F c) (fun e he=>by cases he) ⟨i,rfl,rfl⟩ ⟨rfl,rfl⟩,k⟩
theorem tz {K:AV→List AO→Prop} (h:K (.bytes x) σ):cW G C lv σ (.Constant (.bytes x) k pos) K:=⟨_,_,fun _ _=>vY,h⟩
end
section
open PySem.SeqAt
variable {G:Gd} {F:Fx} {A:Around} {C:Cx} {lv lv' lv₁ lv₂:List (Str×AV)} {σ σ' σ₁ σ₂ σ₃:List AO} {π π' π₁:PM} {s s' s₁:Shared}
theorem qz (hi:σ[i]? = some (.list xs)) (hj:σ[j]? = some (.list ys)) (hz:xs.length+ys.length≤16777216):fy G A σ (binaryOp .Add) (.dyn i) (.dyn j) (.dyn σ.length) (σ++[.list (xs++ys)]):=fun π s v u S hv hu Q E hq=>by
 (refine bD hv fun _ zz1=>?_;clear hv;subst zz1)
 (refine bD hu fun _ zz2=>?_;clear hu;subst zz2)
 (refine aF (S.rep.at_ i _ hi) fun vs zz3 hvs=>?_;refine b8 zz3 fun k h1=>?_;clear zz3)
 (refine aF (S.rep.at_ j _ hj) fun us zz5 hus=>?_;refine b8 zz5 fun k' h2=>?_;clear zz5)
 refine bn (P.add_list h1 h2 ?_ (by rw[VRs.size hvs,VRs.size hus,sizeLine_eq];exact hz))
 exact kf (ao := .list (xs++ys)) (k:=s.toks) S bw (aC _) (fun π' e e1=>⟨vs++us,⟨0,by rw[e1,Heap.get?_push_size _ rfl];simp⟩,VRs.mono (All2.append hvs hus) e (Nat.le_succ _)⟩) hq
theorem oP (h:VRs π n xs vs):∀k:Nat,VRs π n (List.replicate k xs).flatten (List.replicate k vs).flatten
 | 0 => .nil
 | k+1=>by
  rw[List.replicate_succ,List.replicate_succ,List.flatten_cons,List.flatten_cons]
  exact All2.append h (oP h k)
theorem mH (vs:List Value):∀ (k:Nat) (acc:Array Value),List.foldl (fun x1 x2=>x1++x2) acc (List.replicate k vs.toArray)=acc++(List.replicate k vs).flatten.toArray
 | 0,acc=>by simp
 | k+1,acc=>by
  rw[List.replicate_succ,List.foldl_cons,mH vs k,List.replicate_succ,List.flatten_cons]
  simp
theorem lr (hi:σ[i]? = some (.list xs)) (hlo : -(2 ^ 63:Int)≤x) (hhi:x < 2 ^ 63) (hz:xs.length*x.toNat≤16777216):fy G A σ (binaryOp .Mult) (.dyn i) (.int x) (.dyn σ.length) (σ++[.list (List.replicate x.toNat xs).flatten]):=fun π s v u S hv hu Q E hq=>by
 (refine bD hv fun _ zz7=>?_;clear hv;subst zz7)
 (refine b8 hu fun t zz8=>?_;clear hu;subst zz8)
 (refine aF (S.rep.at_ i _ hi) fun vs zz9 hvs=>?_;refine b8 zz9 fun k h1=>?_;clear zz9)
 have hsz:=VRs.size hvs
 refine bn (wpAny_binaryOp_repeat_ref (T := "list") (U := "int") (by decide) ⟨_,h1,rfl⟩ (fun s'=>typeIs_int s' x t) noFill_list_mul F.fills_int_mul F.slot_int_rmul repeat_list F.slot_int_index.lookup
  (call_meets F.slot_int_rmul (typeIs_int s x t) F.entry_int_rmul (F.args_int_rmul_2 _ _) (int___rmul___int_list x t _ vs.toArray k)
   ⟨h1,rfl,⟨_,h1,rfl⟩,call_meets F.slot_list_mul ⟨_,h1,rfl⟩ F.entry_list_mul (F.args_list_mul_2 _ _)
    (AutoListH.list___mul___list_int_3 _ vs.toArray k x t (by simp[Builtin.List.listFitsIndex];exact⟨hlo,Int.lt_of_lt_of_le hhi (by decide)⟩) (by rw[hsz];exact Nat.not_lt.mpr (q1 0 16777216 0 1152921504606846975 hz rfl)) (by rw[hsz,Builtin.List.listTooLong,decide_eq_true_eq,sizeLine_eq];exact Nat.not_lt.mpr hz))
    ⟨h1,?_⟩⟩))
 refine kf (ao := .list (List.replicate x.toNat xs).flatten) (k:=s.toks) S bw (aC _) (fun π' e e1=>⟨(List.replicate x.toNat vs).flatten,⟨0,?_⟩,(oP hvs _).mono e (Nat.le_succ _)⟩) hq
 rw[e1,Heap.get?_push_size _ rfl,mH]
 by_cases he:vs.toArray.isEmpty=true
 ·rw[if_pos he]
  have:vs=[]:=by simpa using he
  subst this
  simp
 ·rw[if_neg he];simp
theorem iG {lo hi:Option Int}:slicePick vs.toArray lo hi none=(cut vs lo hi).toArray:=by
 unfold slicePick
 rw[sliceBounds_plain]
 simp only[sliceRange_one,pick_run]
 rfl
theorem All2.cut {α β:Type} {R:α→β→Prop} {l:List α} {m:List β} (h:All2 R l m) (lo hi:Option Int):All2 R (cut l lo hi) (cut m lo hi):=by
 unfold Mine.cut
 rw[← h.length]
 exact(h.drop _).take _
theorem lh {lo hi:Option Int} (hi':σ[i]? = some (.list xs)) (hj:σ[j]? = some (.slc lo hi)) (hz:xs.length≤16777216)
  (hs:∀o i,subscripted slice false o i=operate [i,o] (getItem o i):=by intro _ _;with_unfolding_all rfl):Sub G A σ slice (.dyn i) (.dyn j) (.dyn σ.length) (σ++[.list (cut xs lo hi)]):=fun value π s v u S hv hu Q E hq=>by
 (refine bD hv fun _ zz11=>?_;clear hv;subst zz11)
 (refine bD hu fun _ zz12=>?_;clear hu;subst zz12)
 (refine aF (S.rep.at_ i _ hi') fun vs hl hvs=>?_)
 (refine cy (S.rep.at_ j _ hj) fun l u p₁ p₂ ho=>?_)
 refine bn (tail_any hl.isList.typeIs slot_list_getitem.lookup (wpAny_getItem_list_slice hl.isList ⟨_,ho,rfl,rfl⟩ (iq p₁) (iq p₂) .none (by simp) ?_ (by rw[VRs.size hvs,sizeLine_eq];exact hz)) (hs _ _))
 rw[iG]
 exact kf (ao := .list (cut xs lo hi)) (k:=s.toks) S bw (aC _) (fun π' e e1=>⟨cut vs lo hi,⟨0,by rw[e1];exact Heap.get?_push_size _ rfl⟩,VRs.mono (All2.cut hvs lo hi) e (Nat.le_succ _)⟩) hq
theorem tB (A:Around) (s:Shared):EqAt A s .none .none true:=fun prog w E Q h=>by
 unfold eqBool
 refine wpAny_holding ?_
 refine wpAny_ite_split (fun hab=>?_) (fun q=>absurd (by decide) q)
 exact wpAny_bind (wpAny_rule (wpAny_pure h))
theorem qN (A:Around) (s:Shared):EqAt A s (.bytes b t) (.bytes c u) (b.toList==c.toList):=fun prog w E Q h=>by
 unfold eqBool
 refine wpAny_holding ?_
 refine wpAny_ite_split (fun hab=>?_) (fun _=>?_)
 ·have e:=eq_of_beq hab
  injection e with e1 e2
  subst e1
  exact wpAny_bind (wpAny_rule (wpAny_pure (by simpa using h)))
 ·exact wpAny_bind (richCompare_gives (typeIs_bytes s b t) (typeIs_bytes s c u) FB.slot_bytes_eq FB.entry_bytes_eq (FB.args_bytes_eq_2 _ _) (gives_bytes_eq b c t u) (fun e=>nomatch e) (wpAny_truthy_bool h))
inductive AvE:AV→AV→Bool→Prop
 | i {a b:Int}:AvE (.int a) (.int b) (a==b)
 | s {a b:Str}:AvE (.str a) (.str b) (a==b)
 | n:AvE .none .none true
 | b {a b:List UInt8}:AvE (.bytes a) (.bytes b) (a==b)
inductive AvEs:List AV→List AV→Bool→Prop
 | nil:AvEs [] [] true
 | cons {a b:AV} {as bs:List AV} {x y:Bool}:AvE a b x→AvEs as bs y→AvEs (a::as) (b::bs) (x && y)
theorem AvE.ri:AvE (.int a) (.int a) true:=beq_self_eq_true a ▸ AvE.i (a:=a) (b:=a)
theorem AvE.rs:AvE (.str a) (.str a) true:=beq_self_eq_true a ▸ AvE.s (a:=a) (b:=a)
theorem AvE.rb:AvE (.bytes a) (.bytes a) true:=beq_self_eq_true a ▸ AvE.b (a:=a) (b:=a)
theorem AvE.at {n:Nat} {a b:AV} (h:AvE a b e) (hv:VR π n a v) (hu:VR π n b u) (A:Around) (s:Shared):EqAt A s v u e:=by
 cases h with
 | i=>(refine b8 hv fun t zz1=>?_;subst zz1);(refine b8 hu fun t' zz1=>?_;subst zz1);exact(MeetsSeq.EqGives.int _ _ _ _).at A s
 | s=>(refine b8 hv fun t zz1=>?_;subst zz1);(refine b8 hu fun t' zz1=>?_;subst zz1);exact(eqGives_str _ _ _ _).at A s
 | n=>cases hv;cases hu;exact tB A s
 | b=>(refine b8 hv fun t zz1=>?_;subst zz1);(refine b8 hu fun t' zz1=>?_;subst zz1);exact qN A s
theorem AvEs.at (A:Around) (s:Shared) (h:AvEs as bs r) (hv:VRs π n as vs) (hu:VRs π n bs us) :
  vs.length=us.length∧∃e:Nat→Bool,(∀j (h1:j < vs.length) (h2:j < us.length),EqAt A s vs[j] us[j] (e j))∧(List.range vs.length).all e=r:=by
 induction h generalizing vs us with
 | nil=>cases hv;cases hu;exact⟨rfl,fun _=>true,fun j h1=>absurd h1 (Nat.not_lt_zero j),rfl⟩
 | @cons a b as bs x y h1 _ ih =>
  cases hv with
  | cons v1 v2 =>
   cases hu with
   | cons u1 u2 =>
    (refine o9 (ih v2 u2) fun hl e he hr=>?_)
    refine⟨congrArg Nat.succ hl,fun j=>Nat.casesOn j x e,fun j=>?_,?_⟩
    ·cases j with
     | zero=>exact fun _ _=>h1.at v1 u1 A s
     | succ j=>exact fun k1 k2=>he j (Nat.lt_of_succ_lt_succ k1) (Nat.lt_of_succ_lt_succ k2)
    ·rw[List.length_cons,List.range_succ_eq_map,List.all_cons,List.all_map,← hr]
     rfl
theorem sV (R:Rm A n) (hi:σ[i]? = some (.list xs)) (hj:σ[j]? = some (.list ys)) (h:AvEs xs ys r):fy G A σ (compareOp .Eq) (.dyn i) (.dyn j) (.bool r) σ:=fun π s v u S hv hu Q E hq=>by
 (refine bD hv fun _ zz23=>?_;clear hv;subst zz23)
 (refine bD hu fun _ zz24=>?_;clear hu;subst zz24)
 (refine aF (S.rep.at_ i _ hi) fun vs hl hvs=>?_)
 (refine aF (S.rep.at_ j _ hj) fun us hl' hus=>?_)
 (refine o9 (AvEs.at A.in1 s h hvs hus) fun hlen e he hr=>?_)
 have hc:A.units < cLine:=by have:=R.units;unfold cLine;lia
 exact bn (eq_listAt (e:=e) hl.isList hl'.isList (by simpa using hlen) hc (fun j h1 h2=>by simpa using he j (by simpa using h1) (by simpa using h2)) (by
  rw[show (List.range vs.toArray.size).all e=r by simpa using hr]
  exact hq π s _ S S.same rfl))
theorem nV (R:Rm A n) (hi:σ[i]? = some (.list xs)) (hj:σ[j]? = some (.list ys)) (h:xs.length≠ys.length):fy G A σ (compareOp .Eq) (.dyn i) (.dyn j) (.bool false) σ:=fun π s v u S hv hu Q E hq=>by
 (refine bD hv fun _ zz29=>?_;clear hv;subst zz29)
 (refine bD hu fun _ zz30=>?_;clear hu;subst zz30)
 (refine aF (S.rep.at_ i _ hi) fun vs hl hvs=>?_)
 (refine aF (S.rep.at_ j _ hj) fun us hl' hus=>?_)
 have hc:A.units < cLine:=by have:=R.units;unfold cLine;lia
 exact bn (eq_list_lengthsAt hl.isList hl'.isList (by rw[VRs.size hvs,VRs.size hus];simpa using h) hc (hq π s _ S S.same rfl))
theorem sS (R:Rm A n) (hi:σ[i]? = some (.list xs)) (hj:σ[j]? = some (.list ys)) (h:AvEs xs ys r):fy G A σ (compareOp .NotEq) (.dyn i) (.dyn j) (.bool (!r)) σ:=fun π s v u S hv hu Q E hq=>by
 (refine bD hv fun _ zz33=>?_;clear hv;subst zz33)
 (refine bD hu fun _ zz34=>?_;clear hu;subst zz34)
 (refine aF (S.rep.at_ i _ hi) fun vs hl hvs=>?_)
 (refine aF (S.rep.at_ j _ hj) fun us hl' hus=>?_)
 (refine o9 (AvEs.at A.in1 s h hvs hus) fun hlen e he hr=>?_)
 have hc:A.units < cLine:=by have:=R.units;unfold cLine;lia
 exact bn (RcNeAt.lists (e:=e) hl.isList hl'.isList (by simpa using hlen) hc (fun j h1 h2=>by simpa using he j (by simpa using h1) (by simpa using h2)) G.prog G.w E Q (by
  rw[show (List.range vs.toArray.size).all e=r by simpa using hr]
  exact hq π s _ S S.same rfl))
theorem nS (R:Rm A n) (hi:σ[i]? = some (.list xs)) (hj:σ[j]? = some (.list ys)) (h:xs.length≠ys.length):fy G A σ (compareOp .NotEq) (.dyn i) (.dyn j) (.bool true) σ:=fun π s v u S hv hu Q E hq=>by
 (refine bD hv fun _ zz39=>?_;clear hv;subst zz39)
 (refine bD hu fun _ zz40=>?_;clear hu;subst zz40)
 (refine aF (S.rep.at_ i _ hi) fun vs hl hvs=>?_)
 (refine aF (S.rep.at_ j _ hj) fun us hl' hus=>?_)
 have hc:A.units < cLine:=by have:=R.units;unfold cLine;lia
 exact bn (RcNeAt.lists_lengths hl.isList hl'.isList (by rw[VRs.size hvs,VRs.size hus];simpa using h) hc G.prog G.w E Q (hq π s _ S S.same rfl))
theorem qp {ns ms:List Int} (h:ns.length=ms.length):AvEs (ns.map .int) (ms.map .int) (ns==ms):=by
 induction ns generalizing ms with
 | nil=>cases ms with
  | nil=>exact .nil
  | cons m ms=>cases h
 | cons n ns ih=>cases ms with
  | nil=>cases h
  | cons m ms=>exact AvEs.cons .i (ih (Nat.succ.inj h))
theorem ra:∀ {ns:List Str} {vs:List Value},VRs π n (ns.map AV.str) vs→StrsAre vs ns
 | [],_,h=>by cases h;exact .nil
 | k::ns,_,h=>by
  cases h with
  | cons h1 h2=>(refine b8 h1 fun t zz43=>?_;clear h1;subst zz43);exact StrsAre.cons _ _ (ra h2)
theorem sU {ys:List Str} (hi:σ[i]? = some (.list (ys.map .str))):fy G A σ (compareOp .In) (.str x) (.dyn i) (.bool (ys.any (·==x))) σ:=fun π s v u S hv hu Q E hq=>by
 (refine b8 hv fun t zz44=>?_;clear hv;subst zz44)
 (refine bD hu fun _ zz45=>?_;clear hu;subst zz45)
 (refine aF (S.rep.at_ i _ hi) fun vs hl hvs=>?_)
 exact bn (in_list_strs hl.isList (ra hvs) (hq π s _ S S.same rfl))
theorem zY (hh:A.handled=none):Cl G A σ (.builtin "max") [.int a,.int b] (.int (max a b)) σ:=fun π s fv vs S hf hv Q E hq=>by
 subst hf
 cases hv with
 | cons hx hr =>
  cases hr with
  | cons hy hr =>
   cases hr
   (refine b8 hx fun t zz50=>?_;clear hx;subst zz50)
   (refine b8 hy fun u zz51=>?_;clear hy;subst zz51)
   refine bn (max_two_ints hh fun h' tk hk=>?_)
   (refine bD (S.keeps (X:=cG) (s':={ s with heap:=h',toks:=tk }) hk rfl rfl) fun C W=>?_)
   refine hq π _ _ C W ?_
   split
   ·exact⟨u,by rw[Int.max_eq_right (by lia)]⟩
   ·exact⟨t,by rw[Int.max_eq_left (by lia)]⟩
theorem zX (hh:A.handled=none):Cl G A σ (.builtin "min") [.int a,.int b] (.int (min a b)) σ:=fun π s fv vs S hf hv Q E hq=>by
 subst hf
 cases hv with
 | cons hx hr =>
  cases hr with
  | cons hy hr =>
   cases hr
   (refine b8 hx fun t zz52=>?_;clear hx;subst zz52)
   (refine b8 hy fun u zz53=>?_;clear hy;subst zz53)
   refine bn (min_two_ints hh fun h' tk hk=>?_)
   (refine bD (S.keeps (X:=cG) (s':={ s with heap:=h',toks:=tk }) hk rfl rfl) fun C W=>?_)
   refine hq π _ _ C W ?_
   split
   ·exact⟨u,by rw[Int.min_eq_right (by lia)]⟩
   ·exact⟨t,by rw[Int.min_eq_left (by lia)]⟩
end
section
variable {G:Gd} {F:Fx} {A:Around} {C:Cx} {lv lv' lv₁ lv₂:List (Str×AV)} {σ σ' σ₁ σ₂ σ₃:List AO} {π π' π₁:PM} {s s' s₁:Shared}
section
variable {K:Type} [DecidableEq K]
noncomputable def lk (es:List (K×AV)) (k:K):Option AV:=(es.find? fun p=>p.1=k).map (·.2)
noncomputable def st (es:List (K×AV)) (k:K) (v:AV):List (K×AV):=if es.any (fun p=>p.1=k) then es.map (fun p=>if p.1=k then (p.1,v) else p) else es++[(k,v)]
abbrev EsR (π:PM) (n:Nat) (es:List (K×AV)) (kvs:List (K×Value)):Prop:=All2 (fun p q=>p.1=q.1∧VR π n p.2 q.2) es kvs
theorem EsR.lk {n:Nat} {es:List (K×AV)} {kvs:List (K×Value)} (h:EsR π n es kvs) (k:K):match lk es k with | some a=>∃v,valueAt kvs k=some v∧VR π n a v | none=>valueAt kvs k=none:=by
 induction h with
 | nil=>rfl
 | @cons p q _ _ r _ ih =>
  unfold Mine.lk valueAt
  rw[List.find?_cons,List.find?_cons,← r.1]
  by_cases e:p.1=k
  ·simp only[e,decide_true,Option.map_some]
   exact⟨_,rfl,r.2⟩
  ·simp only[e,decide_false]
   exact ih
theorem EsR.any (h:EsR π n es kvs) (k:K):es.any (fun p=>p.1=k)=kvs.any (fun p=>p.1=k):=by
 induction h with
 | nil=>rfl
 | cons r _ ih=>rw[List.any_cons,List.any_cons,ih,r.1]
theorem EsR.st {n:Nat} {es:List (K×AV)} {kvs:List (K×Value)} (h:EsR π n es kvs) {k:K} {a:AV} {v:Value} (hv:VR π n a v):EsR π n (st es k a) (stored kvs k v):=by
 unfold Mine.st stored
 rw[h.any k]
 split
 ·rename_i hc;clear hc;induction h with
  | nil=>exact .nil
  | @cons p q _ _ r _ ih =>
   rw[List.map_cons,List.map_cons]
   refine .cons ?_ ih
   rw[← r.1]
   by_cases e:p.1=k
   ·rw[if_pos e,if_pos e];exact⟨rfl,hv⟩
   ·rw[if_neg e,if_neg e];exact r
 ·exact All2.append h (.cons ⟨rfl,hv⟩ .nil)
end
def jR (G:Gd):Prop:=∃o,G.g.get? sysModules=some o
theorem y7 (hs:jR G) (S:StC G.g A σ π s) (hi:σ[i]? = some o) (hb:π.a i∈own π i o):(π.a i==sysModules)=false:=by
 (refine b8 hs fun ob h=>?_;clear hs)
 refine beq_eq_false_iff_ne.mpr fun e=>?_
 have:=S.rep.new i o (π.a i) hi hb
 rw[e,h] at this;cases this
theorem Pairs.to {K:Type} [DecidableEq K] {a:KeyKind p w K} {b:KeyKind p' w' K} (e:a.is=b.is):∀ {es:List DictEntry} {kvs:List (K×Value)},Pairs a es kvs→Pairs b es kvs
 | _,_,.nil => .nil
 | _,_,.cons h1 h2 h3 => .cons (e ▸ h1) h2 (Pairs.to e h3)
theorem rl {K:Type} [DecidableEq K] {a:KeyKind p w K} {b:KeyKind p' w' K} (e:a.is=b.is) (e':a.hash=b.hash) {h:Heap} {kvs:List (K×Value)} (x:h.DictOf a d kvs):h.DictOf b d kvs:=by
 (refine qf x fun o es ep ho h1 h2 h3 h4 h5=>?_;clear x)
 exact⟨o,es,ep,ho,h1,h2,fun y hy=>by(refine aF (h3 y hy) fun k k1 k2=>?_);exact⟨k,e ▸ k1,e' ▸ k2⟩,Pairs.to e h4,h5⟩
theorem lg (S:StC G.g A σ π s) (hi:σ[i]? = some (.idict es)):∃kvs,s.heap.DictOf (intKind G.prog G.w) (π.a i) kvs∧EsR π σ.length es kvs:=by
 (refine cM (S.rep.at_ i _ hi) fun pr w kvs h1 h2=>?_)
 exact⟨kvs,rl (a:=intKind pr w) (b:=intKind G.prog G.w) rfl rfl h1,h2⟩
theorem lf (S:StC G.g A σ π s) (hi:σ[i]? = some (.sdict G.w es)):∃kvs,s.heap.DictOf (PySem.strKind G.prog G.w) (π.a i) kvs∧EsR π σ.length es kvs:=by
 (refine ci (S.rep.at_ i _ hi) fun pr kvs h1 h2=>?_)
 exact⟨kvs,rl (a:=PySem.strKind pr G.w) (b:=PySem.strKind G.prog G.w) rfl rfl h1,h2⟩
theorem nx (p:Program) (w:World) (i:Int) (t:Tok):(intKind p w).is i (.int i t)=true:=by simp[intKind,Value.isInt]
theorem kC (p:Program) (w:World) (x:Str) (t:Tok):(PySem.strKind p w).is x (.str x t)=true:=by simp[PySem.strKind,Value.isStrOf]
theorem EsR.isSome {K:Type} [DecidableEq K] {es:List (K×AV)} {kvs:List (K×Value)} (h:EsR π n es kvs) (k:K):(valueAt kvs k).isSome=(Mine.lk es k).isSome:=by
 have:=h.lk k
 cases hq:Mine.lk es k with
 | none=>rw[hq] at this;rw[this];rfl
 | some a=>rw[hq] at this;(refine aF this fun v h1 _=>?_;clear this);rw[h1];rfl
theorem EsR.at {K:Type} [DecidableEq K] {es:List (K×AV)} {kvs:List (K×Value)} (h:EsR π n es kvs) {k:K} (hk:Mine.lk es k=some a):∃v,valueAt kvs k=some v∧VR π n a v:=by
 have:=h.lk k;rw[hk] at this;exact this
theorem EsR.length {K:Type} [DecidableEq K] {es:List (K×AV)} {kvs:List (K×Value)} (h:EsR π n es kvs):kvs.length=es.length:=(All2.length h).symm
theorem ll (hs:jR G) (hi:σ[i]? = some (.idict es)):fy G A σ (compareOp .NotIn) (.int k) (.dyn i) (.bool (!(lk es k).isSome)) σ:=fun π s v u S hv hu Q E hq=>by
 (refine b8 hv fun t zz18=>?_;clear hv;subst zz18)
 (refine bD hu fun _ zz19=>?_;clear hu;subst zz19)
 (refine aF (lg S hi) fun kvs h1 h2=>?_)
 (refine bD (S.toks (X:=cG) (s.toks+1)) fun C W=>?_)
 exact bn (wpAny_notIn_of (nx ..) (y7 hs S hi (by simp[own])) h1.mapOf (hq π _ _ C W (by rw[h2.isSome];rfl)))
theorem sQ (hi:σ[i]? = some (.idict es)) (ha:lk es k=some a)
  (hs:∀o i,subscripted slice false o i=operate [o,i] (getItem o i):=by intro _ _;with_unfolding_all rfl):Sub G A σ slice (.dyn i) (.int k) a σ:=fun value π s v u S hv hu Q E hq=>by
 (refine bD hv fun _ zz21=>?_;clear hv;subst zz21)
 (refine b8 hu fun t zz22=>?_;clear hu;subst zz22)
 (refine aF (lg S hi) fun kvs h1 h2=>?_)
 (refine aF (h2.at ha) fun y e1 e2=>?_)
 (refine bD (S.toks (X:=cG) (s.toks+1)) fun C W=>?_)
 exact bn (tail_any h1.typeIs slot_dict_getitem.lookup (wpAny_getItem_of (nx ..) h1.mapOf e1 (hq π _ _ C W e2)) (hs _ _))
theorem wh (hi:σ[i]? = some (.idict es)) (hz:es.length≤16777216):tC G A σ setItem (.dyn i) (.int k) a (σ.set i (.idict (st es k a))):=fun π s v u x S hv hu hx Q E hq=>by
 (refine bD hv fun _ zz25=>?_;clear hv;subst zz25)
 (refine b8 hu fun t zz26=>?_;clear hu;subst zz26)
 (refine aF (lg S hi) fun kvs h1 h2=>?_)
 refine bn (wpAny_setItem_pairs (nx ..) h1 (fun h' hd hb=>?_) (by rw[h2.length,sizeLine_eq];exact hz))
 (refine bD (S.update (X:=cG) (s':={ s with heap:=h',toks:=s.toks+1 }) (o' := .idict (st es k a)) hi rfl (fun c ob hc eo=>(hb.2 c fun q=>hc (by rw[q];simp[own])).trans eo) ⟨G.prog,G.w,_,hd,h2.st hx⟩ rfl rfl) fun C' W'=>?_)
 exact hq π _ C' W'
theorem sP (hi:σ[i]? = some (.sdict G.w es)) (ha:lk es k=some a)
  (hs:∀o i,subscripted slice false o i=operate [o,i] (getItem o i):=by intro _ _;with_unfolding_all rfl):Sub G A σ slice (.dyn i) (.str k) a σ:=fun value π s v u S hv hu Q E hq=>by
 (refine bD hv fun _ zz31=>?_;clear hv;subst zz31)
 (refine b8 hu fun t zz32=>?_;clear hu;subst zz32)
 (refine aF (lf S hi) fun kvs h1 h2=>?_)
 (refine aF (h2.at ha) fun y e1 e2=>?_)
 (refine bD (S.toks (X:=cG) (s.toks+1)) fun C W=>?_)
 exact bn (tail_any h1.typeIs slot_dict_getitem.lookup (wpAny_getItem_of (kC ..) h1.mapOf e1 (hq π _ _ C W e2)) (hs _ _))
theorem wg (hi:σ[i]? = some (.sdict G.w es)) (hz:es.length≤16777216):tC G A σ setItem (.dyn i) (.str k) a (σ.set i (.sdict G.w (st es k a))):=fun π s v u x S hv hu hx Q E hq=>by
 (refine bD hv fun _ zz35=>?_;clear hv;subst zz35)
 (refine b8 hu fun t zz36=>?_;clear hu;subst zz36)
 (refine aF (lf S hi) fun kvs h1 h2=>?_)
 refine bn (wpAny_setItem_pairs (kC ..) h1 (fun h' hd hb=>?_) (by rw[h2.length,sizeLine_eq];exact hz))
 (refine bD (S.update (X:=cG) (s':={ s with heap:=h',toks:=s.toks+1 }) (o' := .sdict G.w (st es k a)) hi rfl (fun c ob hc eo=>(hb.2 c fun q=>hc (by rw[q];simp[own])).trans eo) ⟨G.prog,_,hd,h2.st hx⟩ rfl rfl) fun C' W'=>?_)
 exact hq π _ C' W'
theorem vW (h:ao = .idict []∨ao = .sdict G.w []):Ev G F lv σ (.Dict [] [] pos) (.dyn σ.length) (σ++[ao]):=fun π s S Q E hq=>by
 refine bn ?_
 rw[eval_Dict_empty];simp only[newDict,newObj]
 refine wpAny_bind (wpAny_standAt ?_)
 show wpAny _ _ (newObj (.type "dict") (.dict #[])) _ _ _
 refine wpAny_newObj_type ?_
 refine kf (ao:=ao) (k:=s.toks) S.c bw (aC _) (fun π' e e1=>?_) (fun π' s' v C' W' R'=>hq π' s' v C' W' R')
 have hd:∀ {K:Type} [DecidableEq K] (knd:KeyKind G.prog G.w K),(s.heap.push { cls := .type "dict",data := .dict #[] }).DictOf knd (π'.a σ.length) []:=fun knd=>by
  rw[e1];exact⟨_,#[],0,Heap.get?_push_size _ rfl,⟨rfl,rfl,rfl⟩,rfl,fun _ he=>by simp at he,.nil,List.nodup_nil⟩
 rcases h with rfl | rfl
 ·exact⟨G.prog,G.w,[],hd _,.nil⟩
 ·exact⟨G.prog,[],hd _,.nil⟩
def zl (a:AV) (v:Value):Prop:=∀π n,VR π n a v
structure TabS (G:Gd) (a:Addr) (f:Str→Option Value):Prop where
 map:G.g.MapOf (PySem.strKind G.prog G.w) a f
 sys:(a==sysModules)=false
structure TabI (G:Gd) (a:Addr) (f:Int→Option Value):Prop where
 map:G.g.MapOf (intKind G.prog G.w) a f
 sys:(a==sysModules)=false
theorem MapOf.keeps {K:Type} [DecidableEq K] {knd:KeyKind prog w K} {h h':Heap} {f:K→Option Value} (hm:h.MapOf knd a f) (hk:∀b o,h.get? b=some o→h'.get? b=some o):h'.MapOf knd a f :=
 let ⟨o,es,ep,ho,r⟩:=hm;⟨o,es,ep,hk _ _ ho,r⟩
theorem zt (T:TabS G a f):fy G A σ (compareOp .In) (.str k) (.base a) (.bool (f k).isSome) σ:=fun π s v u S hv hu Q E hq=>by
 (refine b8 hv fun t zz38=>?_;clear hv;subst zz38)
 subst hu
 (refine bD (S.toks (X:=cG) (s.toks+1)) fun C W=>?_)
 exact bn (wpAny_in_of (kC ..) T.sys (MapOf.keeps T.map S.keepg) (hq π _ _ C W rfl))
theorem Bo (T:TabS G a f) (hy:f k=some y) (hr:zl r y)
  (hs:∀o i,subscripted slice false o i=operate [o,i] (getItem o i):=by intro _ _;with_unfolding_all rfl):Sub G A σ slice (.base a) (.str k) r σ:=fun value π s v u S hv hu Q E hq=>by
 subst hv
 (refine b8 hu fun t zz39=>?_;clear hu;subst zz39)
 have hm:=MapOf.keeps T.map S.keepg
 (refine bD (S.toks (X:=cG) (s.toks+1)) fun C W=>?_)
 exact bn (tail_any hm.typeIs slot_dict_getitem.lookup (wpAny_getItem_of (kC ..) hm hy (hq π _ _ C W (hr _ _))) (hs _ _))
theorem zz (T:TabI G a f):Gm G A σ (.base a) "get" (.builtin "dict.get") [.base a]:=fun π s v S hv pl Q E hq=>by
 subst hv
 have hm:=MapOf.keeps T.map S.keepg
 (refine cQ (id hm) fun o es ep ho hx _=>?_)
 exact bn (getMethod_builtin hm.typeIs F.plainAttrs_dict F.slot_dict_get (by show builtinType _=_;rw[builtinType_eq_fast];kernel_rfl) (fun b e=>by cases e;exact⟨_,ho,hx.2.1⟩) (hq s _ _ S S.same rfl (.cons rfl .nil)))
theorem z5 (T:TabI G a f) (hr:match f k with | some y=>zl r y | none=>r=d):Cl G A σ (.builtin "dict.get") [.base a,.int k,d] r σ:=fun π s fv vs S hf hv Q E hq=>by
 subst hf
 cases hv with
 | cons hx hv =>
  cases hv with
  | cons hy hv =>
   cases hv with
   | cons hz hv =>
    cases hv
    subst hx
    (refine b8 hy fun t zz44=>?_;clear hy;subst zz44)
    have hm:=MapOf.keeps T.map S.keepg
    (refine bD (S.toks (X:=cG) (s.toks+1)) fun C W=>?_)
    refine bn (call_meetsIn F.slot_dict_get hm.typeIs F.entry_dict_get (F.args_dict_get_3 _ _ _) (meets_dict_get_default (intKind G.prog G.w) a (nx ..) T.sys _) ⟨f,hm,hq π _ _ C W ?_⟩)
    cases hf:f k with
    | none=>rw[hf] at hr;subst hr;exact hz
    | some y=>rw[hf] at hr;exact hr _ _
theorem vm {vs:List Value} (ht:G.g.IsTuple a vs.toArray) (h0:0≤k) (h1:k < 2 ^ 63) (hy:vs[k.toNat]? = some y) (hr:zl r y)
  (hs:∀o i,subscripted slice false o i=operate [o,i] (getItem o i):=by intro _ _;with_unfolding_all rfl):Sub G A σ slice (.base a) (.int k) r σ:=fun value π s v u S hv hu Q E hq=>by
 subst hv
 (refine b8 hu fun t zz45=>?_;clear hu;subst zz45)
 have ht':s.heap.IsTuple a vs.toArray:=let ⟨o,ho,r⟩:=ht;⟨o,S.keepg _ _ ho,r⟩
 have hl:k.toNat < vs.length:=(List.getElem?_eq_some_iff.mp hy).1
 exact bn (tail_any ht'.typeIs F.slot_tuple_getitem.lookup (PyProof.Rows.getItem_tuple ht' (Int.le_of_lt (Int.lt_of_lt_of_le (by decide) h0)) h1 (seqIndex_of h0 (by simp;exact nC (Int.ofNat_lt.mpr hl) (Int.le_of_eq (Int.toNat_of_nonneg h0).symm))) (by simpa using hy) (hq π s _ S S.same (hr _ _))) (hs _ _))
theorem vz (hh:A.handled=none) (ht:G.g.IsTuple a vs.toArray) (hr:All2 zl xs vs):vA G A σ (.base a) xs (fun _=>True):=fun π s v S hv Q E h=>by
 subst hv
 have ht':s.heap.IsTuple a vs.toArray:=let ⟨o,ho,r⟩:=ht;⟨o,S.keepg _ _ ho,r⟩
 refine bn (wpAny_pyIter_tuple ht' ?_)
 (refine bD (S.keeps (X:=cG) (s':={ s with heap:=s.heap.push { cls := .type "tuple_iterator",data := .fields #[.ref a,.int 0 0] } }) bw rfl rfl) fun C W=>?_)
 refine h s.heap.objs.size _ (fun k h=>h.IsTupleIter s.heap.objs.size a k) C W (aC _) ⟨_,Heap.get?_push_size _ rfl⟩ ⟨_,Heap.get?_push_size _ rfl,rfl,rfl⟩ ⟨?_,?_,?_,fun k s P A Q E h=>bn (wpAny_pyIter_tupleiter P h),fun k s ⟨o,P1,P2,_⟩ A t v Q E h=>nr P1 P2 (by decide) h⟩
 ·rintro k h h' ⟨o,h1,h2⟩ e
  exact⟨o,e.trans h1,h2⟩
 ·intro k x π' σ' s' ha hok he hn S' B' P' Q' E' h'
  have hl':s'.heap.IsTuple a vs.toArray:=let ⟨o,ho,r⟩:=ht;⟨o,S'.keepg _ _ ho,r⟩
  (refine aF (All2.get hr ha) fun v hv1 hv2=>?_)
  refine bn (wpAny_pyNext_tuple_item P' hl' (x:=v) (by simpa using hv1) fun h'' hit hsb=>?_)
  (refine bD (S'.beside (X:=(·=s.heap.objs.size)) (s':={ s' with heap:=h'' }) B' (fun b o hb e=>(hsb.2 b hb).trans e) rfl rfl rfl) fun C' W'=>?_)
  exact h' _ v C' W' hit (let ⟨o,q,_⟩:=hit;⟨o,q⟩) (hv2 _ _)
 ·intro k π' σ' s' hk _ hok he hn S' B' P' Q' E' h'
  have hl':s'.heap.IsTuple a vs.toArray:=let ⟨o,ho,r⟩:=ht;⟨o,S'.keepg _ _ ho,r⟩
  refine bn (wpAny_pyNext_tuple_end hh P' hl' (by simp[← hr.length,hk]) fun h'' hsb=>?_)
  (refine bD (S'.beside (X:=(·=s.heap.objs.size)) (s':={ s' with heap:=h'' }) B' (fun b o hb e=>hsb b o hb e) rfl rfl rfl) fun C' W'=>?_)
  exact h' _ C' W'
theorem qw {ns:List Int} (hi:σ[i]? = some (.tuple (ns.map .int))):fy G A σ (compareOp .In) (.int x) (.dyn i) (.bool (ns.any (·==x))) σ:=fun π s v u S hv hu Q E hq=>by
 (refine b8 hv fun t zz47=>?_;clear hv;subst zz47)
 (refine bD hu fun _ zz48=>?_;clear hu;subst zz48)
 (refine aF (S.rep.at_ i _ hi) fun vs hl hvs=>?_)
 exact bn (in_tuple_ints hl (by simpa using jj hvs) (hq π s _ S S.same rfl))
end
section
variable {G:Gd} {F:Fx} {A:Around} {C:Cx} {lv lv' lv₁ lv₂:List (Str×AV)} {σ σ' σ₁ σ₂ σ₃:List AO} {π π' π₁:PM} {s s' s₁:Shared}
theorem oy [Decidable c] {k:PUnit→Sem α} {Q:α→Shared→Prop} (h:aS M A (k ()) Q E s):aS M A (if c then (standAt pos >>= k) else k ()) Q E s:=by
 split
 ·exact ae (bz h)
 ·exact h
def uo (M:Model) (A:Around) (E:Value→Shared→Prop) (use:Option (Value→Sem Unit)) (Q:Value→Shared→Prop) (acc:Value) (L:Addr) (r:Result) (s':Shared):Prop:=match r,use with
 | .ok _,none=>∃m,s'.heap.Ns L m∧∀h',Heap.SameBut L s'.heap h'→Q acc { s' with heap:=h' }
 | .ok _,some u=>aS M A (u acc) (fun _ s''=>∃m,s''.heap.Ns L m∧∀h',Heap.SameBut L s''.heap h'→Q .none { s'' with heap:=h' }) E s'
 | .error x,_=>False
theorem dY
  (hcl:clausesOf e=g::gs) (hs:∀x,foldedSetIterable g.iter env x=pure x) (hclos:closureFor scope env=pure cl)
  (hkind:scope.kind = .function) (hnames:∀x∈scope.names,x.2 = .local→scope.names.lookup x.1=some .local)
  (h:aS M A first (fun x s₁=>aS M A (pyIter x) (fun it s₂=>aS M A newAcc (fun acc s₃ =>
   aS M A (newFunctionEnv scope env.globals cl [] env.qual none .none (some env)) (fun cenv s₄ =>
    cS M A (.compStart e 0 it acc { cenv with scope:=relabel scope env }) (uo M A E use Q acc cenv.locals) s₄) E s₃) E s₂) E s₁) E s) :
  aS M A (comprehension e scope env pos newAcc false first use) Q E s:=by
 unfold comprehension
 rw[hclos,hcl]
 refine ae (bb h (fun x s₁ h₁=>ae (bz (ae (bn (wpAny_of_eq (hs x) (ae (aq (bb h₁ (fun it s₂ h₂=>?_) fun _ _ h'=>h'))))))) ) fun _ _ h'=>h')
 refine oy ?_
 refine ae (bb h₂ (fun acc s₃ h₃=>ae (ak (ae (bb h₃ (fun cenv s₄ h₄=>?_) fun _ _ h'=>h')))) fun _ _ h'=>h')
 dsimp only
 have hv:∀x∈(scope.names.filter fun x=>(x.2 == .local || x.2 == .cell) && x.1 != (".0" : Str)).reverse,x.2 = .local →
   Env.kindOf { cenv with scope:=relabel scope env } x.1=some .local:=fun x hx hl=>lookup_relabel_local (hnames x (List.mem_filter.mp (List.mem_reverse.mp hx)).1 hl)
 have hv':∀x∈(scope.names.filter fun x=>(x.2 == .local || x.2 == .cell) && x.1 != (".0" : Str)).reverse.drop 1++(scope.names.filter fun x=>(x.2 == .local || x.2 == .cell) && x.1 != (".0" : Str)).reverse.take 1,
   x.2 = .local→Env.kindOf { cenv with scope:=relabel scope env } x.1=some .local:=fun x hx hl=>by
  rcases List.mem_append.mp hx with h1 | h1
  ·exact hv x (List.mem_of_mem_drop h1) hl
  ·exact hv x (List.mem_of_mem_take h1) hl
 refine aq (ae (fz (aq (qX (qm h₄ fun r s' hr=>?_)))))
 cases r with
 | ok f =>
  cases use with
  | none =>
   (refine aF hr fun m hn hr=>?_)
   exact ae (aq (bn (wpAny_comp_letGo (cenv:={ cenv with scope:=relabel scope env }) hkind _ s' m hv hn fun h' m' _ hs'=>ak (hr h' hs'))))
  | some u =>
   refine ae (bn (wpAny_rule (ae (aq (bb hr (fun _ s'' hr'=>?_) fun _ _ h'=>h')))))
   (refine aF hr' fun m hn hr'=>?_)
   exact ae (bn (wpAny_comp_letGo (cenv:={ cenv with scope:=relabel scope env }) hkind _ s'' m hv' hn fun h' m' _ hs'=>ak (hr' h' hs')))
 | error x=>cases use<;>exact hr.elim
def IE (prog:Program) (w:World) (A:Around) (env:Env) (s₀:Shared) (e:Expr) (r:Int):Prop :=
 ∀k (Q:Value→Shared→Prop) E,(∀t k',Q (.int r t) { s₀ with toks:=k' })→wpAny (model prog w) A (eval e env) Q E { s₀ with toks:=k }
section
variable {prog:Program} {w:World} {env:Env} {s₀:Shared}
theorem f8:IE prog w A env s₀ (.Constant (.int i) k pos) i:=fun k' Q E h=>wpAny_Constant_int (h _ _)
theorem pB (hl:IE prog w A env s₀ l a) (hr:IE prog w A env s₀ r b)
  (ho:∀t u (s:Shared) (Q:Value→Shared→Prop) E,Q (.int z s.toks) { s with toks:=s.toks+1 }→wpAny (model prog w) A (binaryOp op (.int a t) (.int b u)) Q E s):IE prog w A env s₀ (.BinOp l op r pos) z:=fun k Q E h =>
 wpAny_BinOp (hl k _ _ fun t k'=>hr k' _ _ fun u k''=>ho t u _ Q E (h _ _))
theorem vD (hk:env.scope.kind = .function) (hl:env.kindOf (Str.ofString x)=some .local) (hn:s₀.heap.Ns env.locals m) (hv:m (Str.ofString x)=some (.int i t)) (hd:x ≠ "__debug__"):IE prog w A env s₀ (.Name (Str.ofString x) pos) i:=fun k Q E h =>
 wpAny_Name (wpAny_loadName_local hk hl hn hv (h t k)) (by rw[bG];exact beq_eq_false_iff_ne.mpr hd)
theorem xE (hk:env.scope.kind = .function) (hl:env.kindOf (Str.ofString x)=some .cell) (hc:env.cells.lookup (Str.ofString x)=some c) (hv:s₀.heap.IsCell c (some (.int i t))) (hd:x ≠ "__debug__"):IE prog w A env s₀ (.Name (Str.ofString x) pos) i:=fun k Q E h =>
 wpAny_Name (wpAny_loadName_cell hk hl hc hv (h t k)) (by rw[bG];exact beq_eq_false_iff_ne.mpr hd)
end
theorem Walks.inside {prog:Program} {w:World} {I:Addr} {fp wr:List Addr} {n:Nat} {P:Nat→Value→Prop} {St:Nat→Heap→Prop} (W:Walks prog w A I fp wr n P St):Walks prog w A I fp wr n (fun i v=>i < n∧P i v) St where
 sub:=W.sub
 frame:=W.frame
 item:=fun i s Q E hi st hQ=>W.item i s Q E hi st fun v h' tk p=>hQ v h' tk ⟨hi,p⟩
 done:=W.done
 self:=W.self
def Aj (G:Gd) (A:Around) (σ:List AO) (a:AV) (ns:List Int):Prop:=∀π s v,StC G.g A σ π s→VR π σ.length a v→∀ (Q:Value→Shared→Prop) E,
 (∀I fp P St s',Walks G.prog G.w A I fp [I] ns.length P St→(∀j x,P j x→∃n t,ns[j]? = some n∧x = .int n t)→St 0 s'.heap→(∀b∈fp,b < s'.heap.objs.size)→s.heap.get? I=none →
  (∃h' k,s'={ s with heap:=h',toks:=k })→(∀b o,s.heap.get? b=some o→s'.heap.get? b=some o)→Q (.ref I) s')→wpAny G.M A (pyIter v) Q E s
theorem vB (hh:A.handled=none) (hi:σ[i]? = some (.list (ns.map .int))):Aj G A σ (.dyn i) ns:=fun π s v S hv Q E h=>by
 (refine bD hv fun _ zz3=>?_;clear hv;subst zz3)
 (refine aF (S.rep.at_ i _ hi) fun vs hl hvs=>?_)
 have hI:=jj hvs
 have hlt:π.a i < s.heap.objs.size:=by(refine aF (hl.isList) fun _ e _=>?_);exact Heap.lt_size e
 have W:=Walks.list (prog:=G.prog) (w:=G.w) hh s.heap.objs.size (π.a i) (Nat.ne_of_lt hlt) vs.toArray
 rw[show vs.toArray.size=ns.length by rw[List.size_toArray,hI.length]] at W
 refine wpAny_pyIter_list hl.isList (h _ _ _ _ _ W (fun j x hx=>?_) ⟨⟨_,Heap.get?_push_size _ rfl,rfl,rfl⟩,hl.isList.push _⟩ (fun b hb=>?_) (aC _) ⟨_,_,rfl⟩ bw)
 ·(refine ci (IntsAre.at hI j x (by simpa using hx)) fun n t zz6 hn=>?_;subst zz6)
  exact⟨n,t,hn,rfl⟩
 ·show b < (s.heap.push _).objs.size
  rw[Heap.size_push]
  simp only[List.mem_cons,List.not_mem_nil,or_false] at hb
  rcases hb with rfl | rfl
  ·exact Nat.lt_succ_self _
  ·exact Nat.lt_succ_of_lt hlt
theorem mY (hh:A.handled=none) (hi:σ[i]? = some (.rng 0 n)) (hn:n < 2 ^ 62) (hn' : -(2 ^ 62)≤n):Aj G A σ (.dyn i) ((List.range n.toNat).map fun(j:Nat)=>(j:Int)):=fun π s v S hv Q E h=>by
 (refine bD hv fun _ zz9=>?_;clear hv;subst zz9)
 (refine o6 (S.rep.at_ i _ hi) fun t u w hr=>?_)
 have hsz:Builtin.Range.rangeSize 0 n 1=(n.toNat:Int):=by
  rw[rangeSize_one];split<;>lia
 refine wpAny_pyIter_range hr (small_one (by decide) (by decide) hn' hn) ?_
 rw[hsz]
 have W:=Walks.inside (Walks.range (prog:=G.prog) (w:=G.w) hh s.heap.objs.size 0 1 n.toNat)
 have el:((List.range n.toNat).map fun(j:Nat)=>(j:Int)).length=n.toNat:=by simp
 refine h _ _ _ _ _ (el.symm ▸ W) (fun j x hx=>?_) (by show IsRangeIter _ _ _ _ _;simpa using Heap.get?_push_size _ rfl) (fun b hb=>?_) (aC _) ⟨_,_,rfl⟩ bw
 ·(refine hZ hx fun hj t zz12=>?_;clear hx;subst zz12)
  have hj':j < n.toNat:=by simpa using hj
  exact⟨(j:Int),t,by simp[hj'],by congr 1;simp⟩
 ·show b < (s.heap.push _).objs.size
  rw[Heap.size_push]
  simp only[List.mem_cons,List.not_mem_nil,or_false] at hb
  rw[hb];exact Nat.lt_succ_self _
structure CompOk (scope:Scope) (x:Str):Prop where
 cell:∀y∈scope.names,y.2 ≠ .cell
 kind:scope.kind = .function
 names:∀z∈scope.names,z.2 = .local→scope.names.lookup z.1=some .local
 var:scope.names.lookup x=some .local
abbrev wu (f:Int→Int) (ns:List Int) (v y:Value):Prop:=∃a t u,a∈ns∧v=Value.int a t∧y=Value.int (f a) u
theorem mx:∀ {ns:List Int} {vs ys:List Value},(∀ (j:Nat) (v:Value),vs[j]? = some v→∃n t,ns[j]? = some n∧v=Value.int n t)→vs.length=ns.length→Paired (wu f all) vs ys→VRs π n ((ns.map f).map .int) ys
 | [],[],_,_,_,h=>by cases h;exact .nil
 | n::ns,v::vs,_,hP,hl,h=>by
  cases h with
  | cons h1 h2 =>
   (refine cQ h1 fun a t u _ e zz14=>?_;clear h1;subst zz14)
   (refine ci (hP 0 v rfl) fun n' t' e1 e2=>?_)
   cases e1
   rw[e] at e2;cases e2
   exact .cons ⟨u,rfl⟩ (mx (fun j v hv=>hP (j+1) v hv) (by simpa using hl) h2)
 | [],_::_,_,_,hl,_=>by simp at hl
 | _::_,[],_,_,hl,_=>by simp at hl
def wf (G:Gd) (F:Fx) (σ:List AO) (scope:Scope) (cl:List (Str×Nat)) (x:Str) (elt:Expr) (ns:List Int) (f:Int→Int):Prop :=
 ∀ (π:PM) (D:Addr) (s₃:Shared) (m₃:Str→Option Value) (n:Int) (t:Tok),n∈ns→s₃.heap.Ns D m₃→m₃ x=some (.int n t) →
  (∀p∈cl,∀k,σ[p.2]? = some (.cell (some (.int k)))→∃t,s₃.heap.IsCell (π.a p.2) (some (.int k t)))→IE G.prog G.w F.A (compEnvC scope (cl.map fun p=>(p.1,π.a p.2)) D F.env) s₃ elt (f n)
theorem mV {RR:Value→Addr→Result→Shared→Prop}
  (K:CompOk scope x) (he:wf G F σ scope cl x elt ns f) (S:StC G.g F.A σ π s) (hz:ns.length≤16777216)
  (WK:Walks G.prog G.w F.A I fp [I] ns.length P Stt) (hP:∀j x,P j x→∃n t,ns[j]? = some n∧x = .int n t) (hst:Stt 0 s'.heap) (hfp:∀b∈fp,b < s'.heap.objs.size) (hI:s.heap.get? I=none)
  (hs:∃h' k,s'={ s with heap:=h',toks:=k }) (hk:∀b o,s.heap.get? b=some o→s'.heap.get? b=some o)
  (hR:∀D L h' tk m' (ys:List Value),s.heap.get? D=none→s.heap.get? L=none→D≠L→h'.Ns L m'→h'.PlainList D ys.toArray→VRs π σ.length ((ns.map f).map .int) ys→(∀b o,s.heap.get? b=some o→h'.get? b=some o)→RR (.ref D) L (.ok .next) { s with heap:=h',toks:=tk }) :
  aS G.M F.A (newList []) (fun acc s₃=>aS G.M F.A (newFunctionEnv scope F.env.globals (cl.map fun p=>(p.1,π.a p.2)) [] F.env.qual none .none (some F.env)) (fun cenv s₄ =>
   cS G.M F.A (.compStart (.ListComp elt [⟨.Name x px,iter,[],0⟩] scope pos) 0 (.ref I) acc { cenv with scope:=relabel scope F.env }) (RR acc cenv.locals) s₄) E s₃) E s':=by
 have notI:∀b o,s.heap.get? b=some o→b ∉ [I]:=fun b o e hb=>by
  simp only[List.mem_cons,List.not_mem_nil,or_false] at hb
  rw[hb,hI] at e;cases e
 have main:=comp_block_walkC (prog:=G.prog) (w:=G.w) (A:=F.A) (E:=E) (env:=F.env) (elt:=elt) (iter:=iter) (x:=x) (px:=px) (ifs:=[]) (scope:=scope) (cl:=cl.map fun p=>(p.1,π.a p.2)) (pos:=pos) (s₂:=s') (RR:=RR) WK (by rw[sizeLine_eq];exact hz) (fun _=>true) (wu f ns) K.cell K.kind K.var hst hfp
  ⟨fun D i v s₃ m₃ E' _ _ _ _ _ _=>wpAny_pure ⟨rfl,⟨_,_,rfl,fun _ _ e=>e⟩⟩,fun D i v s₃ m₃ E' hD hp _ hn hm hold _=>?_⟩ ?_
 ·refine bb (bn main) (fun acc s₃ h₃=>bb (bn h₃) (fun cenv s₄ h₄=>xt h₄) fun _ _ e=>e) fun _ _ e=>e
 ·(refine ci (hP _ _ hp) fun n t hj zz21=>?_;subst zz21)
  have hmem:=List.mem_of_getElem? hj
  have:=he π D s₃ m₃ n t hmem hn hm (fun p hp k hc=>by
   (refine aF (S.rep.at_ p.2 _ hc) fun u h1 h2=>?_)
   cases u with
   | none=>exact h2.elim
   | some u =>
    (refine b8 h2 fun t' zz25=>?_;clear h2;subst zz25)
    (refine aF h1 fun oc hoc hd=>?_;clear h1)
    exact⟨t',oc,hold _ _ (notI _ _ hoc) (hk _ _ hoc),hd⟩) s₃.toks (fun y s₄=>wu f ns (.int n t) y∧Keeps s₃ s₄) E' fun u k'=>⟨⟨n,t,u,hmem,rfl,rfl⟩,⟨_,_,rfl,fun _ _ e=>e⟩⟩
  exact this
 ·intro D L h' tk m' ys vs hD hL hDL hn hl hpl hlen hPv hF hk'
  (refine bC hs fun h₂ k₂ zz27=>?_;clear hs;subst zz27)
  have none_of:∀b,h₂.get? b=none→s.heap.get? b=none:=fun b e=>by
   cases q:s.heap.get? b with
   | none=>rfl
   | some o=>have:=hk b o q;rw[e] at this;cases this
  refine hR D L h' tk m' ys.toList (none_of _ hD) (none_of _ hL) hDL hn (by simpa using hpl) (mx (fun j v hv=>hP j v (hPv j v hv)) hlen (by rw[List.filter_eq_self.mpr (fun _ _=>rfl)] at hF;exact hF)) fun b o e=>hk' b o (notI b o e) (hk b o e)
theorem xU (K:CompOk scope x)
  (hcl:∀ (env:Env) (f:Nat→Addr),env.cells=F.cl.map (fun p=>(p.1,f p.2))→closureFor scope env=pure (cl.map fun p=>(p.1,f p.2))) (hcl2:∀p∈cl,p.2 < σ.length)
  (y:Ev G F lv σ iter a σ₁) (it:Aj G F.A σ₁ a ns) (hz:ns.length≤16777216) (he:wf G F σ₁ scope cl x elt ns f) (hs:∀x,foldedSetIterable iter F.env x=pure x:=by intro _;rfl) :
  Ev G F lv σ (.ListComp elt [⟨.Name x px,iter,[],0⟩] scope pos) (.dyn σ₁.length) (σ₁++[.list ((ns.map f).map .int)]):=fun π s S Q E h=>by
 rw[eval_ListComp]
 refine dY (use:=none) rfl hs (hcl _ _ S.cells.1) K.kind K.names (y π s S _ E fun π₁ s₁ v C₁ W₁ R₁=>bn (it π₁ s₁ v C₁ R₁ _ E fun I fp P St s₂ WK hP hst hfp hI hs2 hk=>?_))
 have ecl:(cl.map fun p=>(p.1,π.a p.2))=cl.map fun p=>(p.1,π₁.a p.2):=List.map_congr_left fun p hp=>by rw[W₁.ext.a _ (hcl2 p hp)]
 rw[ecl]
 refine mV (RR:=fun acc L=>uo G.M F.A E none Q acc L) K he C₁ hz WK hP hst hfp hI hs2 hk fun D L h' tk m' ys hD hL hDL hn hpl hv hk'=>?_
 refine⟨m',hn,fun h'' hs''=>?_⟩
 have hkk:∀b o,s₁.heap.get? b=some o→h''.get? b=some o:=fun b o e=>(hs''.2 b (fun q=>by rw[q,hL] at e;cases e)).trans (hk' b o e)
 refine kf (s:=s₁) (ao := .list ((ns.map f).map .int)) (k:=tk) C₁ hkk hD (fun π' e e1=>⟨ys,?_,hv.mono e (Nat.le_succ _)⟩) fun π' s' v' C' W' R'=>h π' s' v' C' (W₁.transN W') R'
 rw[e1]
 (refine b8 hpl fun k q=>?_;clear hpl)
 exact⟨k,(hs''.2 D hDL).trans q⟩
theorem vN (K:CompOk scope x)
  (hcl:∀ (env:Env) (f:Nat→Addr),env.cells=F.cl.map (fun p=>(p.1,f p.2))→closureFor scope env=pure (cl.map fun p=>(p.1,f p.2))) (hcl2:∀p∈cl,p.2 < σ.length)
  (hk:F.env.scope.kind = .function) (hy:F.env.kindOf y=some .local) (hsw:swapsWith (.ListComp elt [⟨.Name x px,iter,[],0⟩] scope pos) (some (.Name y py)) spos.line F.env=pure true)
  (ev:Ev G F lv σ iter a σ₁) (it:Aj G F.A σ₁ a ns) (hz:ns.length≤16777216) (he:wf G F σ₁ scope cl x elt ns f) (hs:∀x,foldedSetIterable iter F.env x=pure x:=by intro _;rfl) :
  ou G F lv σ (.Assign [.Name y py] (.ListComp elt [⟨.Name x px,iter,[],0⟩] scope pos) spos) .next (put y (.dyn σ₁.length) lv) (σ₁++[.list ((ns.map f).map .int)]):=fun π s S Q E h=>by
 rw[exec_Assign_Name_used _ _ _ _ hsw]
 refine ae (bz (ae ?_))
 show aS _ _ (do let _←comprehension (.ListComp elt [⟨.Name x px,iter,[],0⟩] scope pos) scope F.env _ (newList []) false (eval iter F.env) (some (assign (.Name y py) F.env))) _ _ s
 refine ae (dY (use:=some (assign (.Name y py) F.env)) rfl hs (hcl _ _ S.cells.1) K.kind K.names (bb (Q:=fun v s₁=>∃π₁,StC G.g F.A σ₁ π₁ s₁∧Fwd F.A cG σ π s σ₁ π₁ s₁∧VR π₁ σ₁.length a v) (E:=E) (ev π s S _ E fun π₁ s₁ v C₁ W₁ R₁=>⟨π₁,C₁,W₁,R₁⟩)
  (fun v s₁ hv=>?_) fun _ _ e=>e))
 (refine fX hv fun π₁ C₁ W₁ R₁=>?_;clear hv)
 refine bn (it π₁ s₁ v C₁ R₁ _ E fun I fp P Stt s₂ WK hP hst hfp hI hs2 hkp=>?_)
 have ecl:(cl.map fun p=>(p.1,π.a p.2))=cl.map fun p=>(p.1,π₁.a p.2):=List.map_congr_left fun p hp=>by rw[W₁.ext.a _ (hcl2 p hp)]
 rw[ecl]
 refine mV (RR:=fun acc L=>uo G.M F.A E (some (assign (.Name y py) F.env)) (fun _ s'=>aS G.M F.A (pure ()) (fun _ s''=>aS G.M F.A (pure Flow.next) Q E s'') E s') acc L) K he C₁ hz WK hP hst hfp hI hs2 hkp fun D L h' tk m' ys hD hL hDL hn hpl hv hk'=>?_
 (refine fc (C₁.alloc (X:=cG) (s':={ s₁ with heap:=h',toks:=tk }) (ao := .list ((ns.map f).map .int)) D D hk' hD hD (fun π' e e1 _=>⟨ys,by rw[e1];exact hpl,hv.mono e (Nat.le_succ _)⟩) rfl rfl) fun π₂ C₂ W₂ e2 _=>?_)
 have S₂:=S.fwd C₂ (W₁.transN W₂)
 (refine cQ hn fun ol es ep l1 l2 l3=>?_;clear hn)
 have hLs:s.heap.get? L=none:=by
  cases q:s.heap.get? L with
  | none=>rfl
  | some o =>
   by_cases t:Tr π σ L
   ·(refine b8 (C₁.rep.there (W₁.stay L t)) fun ob q'=>?_)
    rw[hL] at q';cases q'
   ·(refine hZ (W₁.kept L o t id q) fun _ sl q'=>?_)
    rw[hL] at q';cases q'
 have offL:¬Tr π₂ (σ₁++[AO.list ((ns.map f).map .int)]) L:=fun⟨i,o,h1,h2⟩=>by
  by_cases hi:i < σ₁.length
  ·rw[List.getElem?_append_left hi] at h1
   rw[cI W₂.ext hi] at h2
   (refine b8 (C₁.rep.there ⟨i,o,h1,h2⟩) fun ob q=>?_)
   rw[hL] at q;cases q
  ·rw[List.getElem?_append_right (Nat.le_of_not_lt hi)] at h1
   cases hd:i - σ₁.length with
   | zero =>
    rw[hd] at h1;cases h1
    have hi':i=σ₁.length:=by lia
    simp only[own,List.mem_singleton] at h2
    rw[hi',e2] at h2
    exact hDL h2.symm
   | succ k=>rw[hd] at h1;simp at h1
 have Bs:Beside G F.A (σ₁++[AO.list ((ns.map f).map .int)]) π₂ { s₁ with heap:=h',toks:=tk } L:=by
  refine⟨⟨_,l1⟩,offL,?_,fun hf=>?_⟩
  ·cases q:G.g.get? L with
   | none=>rfl
   | some o=>have:=C₁.keepg _ _ q;rw[hL] at this;cases this
  ·(refine aF (C₁.frs) fun fs f1 f2=>?_)
   unfold frs at hf
   rw[f1] at hf
   (refine aF (List.mem_filterMap.mp hf) fun fr m1 m2=>?_)
   (refine jo (f2 fr m1) fun _ L' o q1 q2 _=>?_)
   rw[q1] at m2;cases m2
   rw[hL] at q2;cases q2
 have hLl:L≠F.env.locals:=fun q=>by
  (refine aF ((S.fwd C₁ W₁).loc) fun m zz45 _=>?_;refine cM zz45 fun o es' ep' g1 _=>?_;clear zz45)
  rw[← q,hL] at g1;cases g1
 show aS G.M F.A (assign (.Name y py) F.env (.ref D)) _ _ _
 have hvD:VR π₂ (σ₁++[AO.list ((ns.map f).map .int)]).length (.dyn σ₁.length) (.ref D):=⟨by simp,by rw[e2]⟩
 refine rL hk hy π₂ _ _ S₂ hvD _ _ fun π₃ s₃ S₃ W₃=>?_
 (refine bD (Bs.fwd W₃ hLl) fun B₃ k₃=>?_)
 refine⟨m',⟨ol,es,ep,k₃.trans l1,l2,l3⟩,fun h'' hs''=>ak (ak ?_)⟩
 (refine bD (S₃.c.beside (X:=(·=L)) (s':={ s₃ with heap:=h'' }) B₃ (fun b o hb e=>(hs''.2 b hb).trans e) rfl rfl rfl) fun C₄ W₄=>?_)
 have S₄:St G F (put y (.dyn σ₁.length) lv) (σ₁++[.list ((ns.map f).map .int)]) π₃ { s₃ with heap:=h'' }:=by
  (refine aF (S₃.loc) fun m zz50 g4=>?_;refine cQ zz50 fun o es' ep' g1 g2 g3=>?_;clear zz50)
  exact⟨C₄,⟨m,⟨o,es',ep',(hs''.2 _ (Ne.symm hLl)).trans g1,g2,g3⟩,g4⟩,S₃.gL,S₃.trL,S₃.cells⟩
 have hall:Fwd F.A (fun b=>b=F.env.locals∨b=L) σ π s _ π₃ { s₃ with heap:=h'' } :=
  ((W₁.transN W₂).toX.trans (W₃.widen fun b hb => .inl hb) (fun b hb=>by rcases hb with rfl | rfl;exact S₃.trL;exact B₃.off)).trans (W₄.widen fun b hb => .inr hb) (fun b hb=>by rcases hb with rfl | rfl;exact S₃.trL;exact B₃.off)
 exact h π₃ _ .next S₄ ⟨hall.ext,hall.len,fun b o h1 h2 h3=>hall.kept b o h1 (fun q=>by
  rcases q with q | q
  ·exact h2 q
  ·subst q;rw[hLs] at h3;cases h3) h3,hall.fresh,hall.stay,hall.os,hall.gens⟩ rfl
end
section
variable {G:Gd} {F:Fx} {A:Around} {C:Cx} {lv lv' lv₁ lv₂:List (Str×AV)} {σ σ' σ₁ σ₂ σ₃:List AO} {π π' π₁:PM} {s s' s₁:Shared}
theorem eP {env:Env} (h1:env.scope.kind = .function):∀ {names:List (Str×NameKind)} {x:Str},env.kindOf x=some .cell→names.lookup x=some .free →
  (names.map fun(n,k)=>if (k==NameKind.free && env.scope.kind == .function && env.kindOf n==some .cell) then (n,NameKind.cell) else (n,k)).lookup x=some .cell
 | [],_,_,h=>by simp at h
 | (n,k)::r,x,h2,h=>by
  have ih:=@eP env h1 r x h2
  show List.lookup x ((if (k==NameKind.free && env.scope.kind == .function && env.kindOf n==some .cell)=true then (n,NameKind.cell) else (n,k))::_)=_
  cases hx:x==n with
  | true =>
   simp only[List.lookup_cons,hx] at h
   cases h
   have:x=n:=eq_of_beq hx
   subst this
   rw[if_pos (by rw[h1,h2];rfl)]
   simp[List.lookup_cons]
  | false =>
   simp only[List.lookup_cons,hx] at h
   by_cases hc:(k==NameKind.free && env.scope.kind == .function && env.kindOf n==some .cell)=true
   ·rw[if_pos hc];simp only[List.lookup_cons,hx];exact ih h
   ·rw[if_neg hc];simp only[List.lookup_cons,hx];exact ih h
theorem t9 (S:Sc F ls cs gs) (h:ls.contains (Str.ofString y)=true) (hp:(py.line==(Expr.ListComp elt gens scope pos).pos.line)=true)
  (hn:(scope.names.any fun p=>p.1==Str.ofString y && (p.2 == .local || p.2 == .cell))=false):swapsWith (.ListComp elt gens scope pos) (some (.Name (Str.ofString y) py)) line F.env=pure true:=by
 show pure (F.env.blockKind == .function && F.env.kindOf (Str.ofString y)==some .local && py.line==(Expr.ListComp elt gens scope pos).pos.line && !(scope.names.any fun p=>p.1==Str.ofString y && (p.2 == .local || p.2 == .cell)))=(pure true:Sem Bool)
 rw[hp,hn,S.loc _ h]
 unfold Env.blockKind
 rw[S.kind]
 rfl
theorem Bd (h:(scope.names.all fun p=>p.2 != .free)=true):closureFor scope env=pure []:=closureFor_none fun x hx=>by
 have:=List.all_eq_true.mp h x hx
 simpa using this
theorem wd {K:AV→List AO→Prop} (cl:List (Str×Nat)) (f:Int→Int) (hn:C.n=some n) (K':CompOk scope x)
  (hcl:∀ (env:Env) (f:Nat→Addr),env.cells=C.cl.map (fun p=>(p.1,f p.2))→closureFor scope env=pure (cl.map fun p=>(p.1,f p.2))) (hcl2:∀p∈cl,p.2 < σ.length)
  (h:cW G C lv σ iter fun a σ₁=>∃ns,(∀A,A.handled=none→Aj G A σ₁ a ns)∧ns.length≤16777216∧(∀F,C.Ok F→wf G F σ₁ scope cl x elt ns f)∧K (.dyn σ₁.length) (σ₁++[.list ((ns.map f).map .int)]))
  (hs:∀env x,foldedSetIterable iter env x=pure x:=by intro _ _;rfl):cW G C lv σ (.ListComp elt [⟨.Name x px,iter,[],0⟩] scope pos) K:=by
 (refine mQ h fun a σ₁ ev ns it hz he k=>?_;clear h)
 exact⟨_,_,fun F c=>xU K' (fun env f h=>hcl env f (by rw[← c.cl];exact h)) hcl2 (ev F c) (it _ (c.nh hn)) hz (he F c) (hs _),k⟩
theorem mZ {K:AFl→List (Str×AV)→List AO→Prop} (cl:List (Str×Nat)) (f:Int→Int) (hn:C.n=some n) (K':CompOk scope x)
  (hcl:∀ (env:Env) (f:Nat→Addr),env.cells=C.cl.map (fun p=>(p.1,f p.2))→closureFor scope env=pure (cl.map fun p=>(p.1,f p.2))) (hcl2:∀p∈cl,p.2 < σ.length)
  (hy:C.ls.contains (Str.ofString y)=true) (hp:(py.line==(Expr.ListComp elt [⟨.Name x px,iter,[],0⟩] scope pos).pos.line)=true) (hm:(scope.names.any fun p=>p.1==Str.ofString y && (p.2 == .local || p.2 == .cell))=false)
  (h:cW G C lv σ iter fun a σ₁=>∃ns,(∀A,A.handled=none→Aj G A σ₁ a ns)∧ns.length≤16777216∧(∀F,C.Ok F→wf G F σ₁ scope cl x elt ns f)∧K .next (put (Str.ofString y) (.dyn σ₁.length) lv) (σ₁++[.list ((ns.map f).map .int)]))
  (hs:∀env x,foldedSetIterable iter env x=pure x:=by intro _ _;rfl):jS G C lv σ (.Assign [.Name (Str.ofString y) py] (.ListComp elt [⟨.Name x px,iter,[],0⟩] scope pos) spos) K X:=by
 (refine mQ h fun a σ₁ ev ns it hz he k=>?_;clear h)
 exact .inl ⟨_,_,_,fun F c=>vN K' (fun env f h=>hcl env f (by rw[← c.cl];exact h)) hcl2 c.sc.kind (c.sc.loc _ hy) (t9 c.sc hy hp hm) (ev F c) (it _ (c.nh hn)) hz (he F c) (hs _),k⟩
theorem mU (h:scope.kind = .function):(compEnvC scope cl D F.env).scope.kind = .function:=by simp[compEnvC,relabel,h]
theorem jx (K:CompOk scope (Str.ofString x)) (hn:s.heap.Ns D m) (hv:m (Str.ofString x)=some (.int i t)) (hd:x ≠ "__debug__") :
  IE G.prog G.w F.A (compEnvC scope cl D F.env) s (.Name (Str.ofString x) pos) i:=vD (mU K.kind) (lookup_relabel_local K.var) hn hv hd
theorem rF (hC:C.Ok F) (ho:C.own=true) (hx:C.cs.contains (Str.ofString x)=true) (hk:scope.kind = .function) (hf:scope.names.lookup (Str.ofString x)=some .free) (hc:cl.lookup (Str.ofString x)=some c)
  (hv:s.heap.IsCell c (some (.int i t))) (hd:x ≠ "__debug__"):IE G.prog G.w F.A (compEnvC scope cl D F.env) s (.Name (Str.ofString x) pos) i :=
 xE (mU hk) (eP hC.sc.kind (hC.own ho _ hx) hf) hc hv hd
section
variable {env:Env} {l r:Expr} {pos:Pos} {a b:Int} {prog:Program} {w:World}
theorem vF (hl:IE prog w A env s l a) (hr:IE prog w A env s r b):IE prog w A env s (.BinOp l .Add r pos) (a+b):=pB hl hr fun _ _ _ _ _ q=>PyProof.Rows.add_int q
theorem vC (hl:IE prog w A env s l a) (hr:IE prog w A env s r b) (h:IntMulOk a b):IE prog w A env s (.BinOp l .Mult r pos) (a*b):=pB hl hr fun _ _ _ _ _ q=>PyProof.Rows.mul_int q h
theorem qD (hl:IE prog w A env s l a) (hr:IE prog w A env s r b) (h:0 < b):IE prog w A env s (.BinOp l .Mod r pos) (a % b):=pB hl hr fun _ _ _ _ _ q=>PyProof.Rows.mod_int (Int.ne_of_gt h) (by rw[Int.fmod_eq_emod_of_nonneg a (Int.le_of_lt h)];exact q)
theorem zy (hl:IE prog w A env s l a) (hr:IE prog w A env s r b) (h:0 < b) (h2:b < 2 ^ 64):IE prog w A env s (.BinOp l .FloorDiv r pos) (a / b):=pB hl hr fun _ _ _ _ _ q =>
 PyProof.Rows.floordiv_int (Int.ne_of_gt h) (by rw[Int.fdiv_eq_ediv_of_nonneg a (Int.le_of_lt h)];exact q) (.inl (j2 (by omega)))
end
end
section
variable {G:Gd} {F:Fx} {A:Around} {C:Cx} {lv lv' lv₁ lv₂:List (Str×AV)} {σ σ' σ₁ σ₂ σ₃:List AO} {π π' π₁:PM} {s s' s₁:Shared}
theorem ld {x:Str} {a:AV} {v:Value} {Q:Unit→Shared→Prop} {E:Value→Shared→Prop} (S:Mine.St G F lv σ π s) (hv:VR π σ.length a v) (hk:F.env.scope.kind = .function) (hl:F.env.kindOf x=some .local)
  (hQ:∀s',Mine.St G F (put x a lv) σ π s'→Fwd F.A (·=F.env.locals) σ π s σ π s'→Q () s'):aS G.M F.A (bindName F.env x v) Q E s:=eR (bn (dZ S hv hk hl hQ))
theorem s8 {x y:Str} {px py tp pos:Pos} {kt:Nat} {value:Expr} {a b:AV} {i:Nat} (hk:F.env.scope.kind = .function) (hx:F.env.kindOf x=some .local) (hy:F.env.kindOf y=some .local) (hh:F.A.handled=none)
  (hsw:swappedStores [.Tuple [.Name x px,.Name y py] kt tp] value F.env=pure (some [x,y])) (hs0:swapsWithSole [.Tuple [.Name x px,.Name y py] kt tp] value pos.line F.env=pure false)
  (ev:Ev G F lv σ value (.dyn i) σ₁) (hi:σ₁[i]? = some (.tuple [a,b])):ou G F lv σ (.Assign [.Tuple [.Name x px,.Name y py] kt tp] value pos) .next (put x a (put y b lv)) σ₁:=fun π s S Q E h=>by
 have ex:exec (.Assign [.Tuple [.Name x px,.Name y py] kt tp] value pos) F.env=(do
   standAt pos
   if←swapsWithSole [.Tuple [.Name x px,.Name y py] kt tp] value pos.line F.env then
    evalThenUse value F.env fun v=>assignAll v ((assignEach [.Tuple [.Name x px,.Name y py] kt tp] F.env).map (·.2))
    return .next
   else
    let v←eval value F.env
    assignStores F.env v (← swappedStores [.Tuple [.Name x px,.Name y py] kt tp] value F.env) ((assignEach [.Tuple [.Name x px,.Name y py] kt tp] F.env).map (·.2))):=rfl
 rw[ex,hs0,hsw]
 refine ae (bz (ae (ak ?_)))
 rw[if_neg Bool.false_ne_true]
 refine ae (ev π s S _ E fun π₁ s₁ v C₁ W₁ R₁=>ae (ak ?_))
 have S₁:=S.fwd C₁ W₁
 show aS G.M F.A (do rule "assign.swapped-stores";let items←unpackItems v 2 none;assignInOrder [fun v=>bindName F.env y v,fun v=>bindName F.env x v] items.reverse;pure .next) Q E s₁
 refine ae (bn (wpAny_rule (ae ?_)))
 refine fV (iP hi) (mX hh hi) hi C₁ R₁ fun s₂ vs C₂ W₂ R₂=>?_
 cases R₂ with
 | @cons _ va _ _ r1 R₂ =>
  cases R₂ with
  | @cons _ vb _ _ r2 R₂ =>
   cases R₂
   have S₂:=S₁.fwd C₂ W₂
   refine ae (show aS G.M F.A (do holding [va] (bindName F.env y vb);assignInOrder [fun v=>bindName F.env x v] [va]) _ E s₂ from ?_)
   refine ae (aq (ld S₂ r2 hk hy fun s₃ S₃ W₃=>?_))
   refine(show aS G.M F.A (do holding [] (bindName F.env x va);assignInOrder [] []) _ E s₃ from ae (aq (ld S₃ r1 hk hx fun s₄ S₄ W₄=>ak (ak ?_))))
   exact h π₁ s₄ .next S₄ (S₄.transL (S₃.transX (X:=(·=F.env.locals)) (fun _ h=>h) (W₁.transN W₂).toX W₃) W₄) rfl
noncomputable def iu (es:List Expr):Bool:=es.all fun e=>!Nat.beq e.ctorIdx 22
theorem AU {α:Type} {c:Prop} {i:Decidable c} {t e r:α} (h:¬c) (k:e=r):@ite α c i t e=r:=(if_neg h).trans k
theorem DK {x y:Str} {a b:Expr} {f:Expr→Option Str} (h1:f a=some x) (h2:f b=some y):List.filterMap f [a,b]=[x,y]:=by
 rw[List.filterMap_cons_some h1,List.filterMap_cons_some h2];rfl
theorem DL {x y:Str} (h:(y==x)=false):[x,y].eraseDups=[x,y]:=by simp[List.eraseDups_cons,h]
theorem wV {x y:Str} {px py tp:Pos} {kt kv:Nat} {vp:Pos} {e1 e2:Expr} (hk:F.env.scope.kind = .function) (hx:F.env.kindOf x=some .local) (hy:F.env.kindOf y=some .local) (hl:(px.line==py.line)=true) (hxy:(y==x)=false)
  (hst:iu [e1,e2]=true) (hf:[e1,e2].all (foldedForSure 8)=false) (hc:[e1,e2].all (constantsAlone 8)=false) :
  swappedStores [.Tuple [.Name x px,.Name y py] kt tp] (.Tuple [e1,e2] kv vp) F.env=pure (some [x,y]):=by
 have hb:F.env.blockKind = .function:=by unfold Env.blockKind;rw[hk];rfl
 have hl':px.line=py.line:=eq_of_beq hl
 refine AU (by rw[hb];exact Bool.false_ne_true) (AU ?_ ?_)
 ·have st:∀e:Expr,(!Nat.beq e.ctorIdx 22)=true→¬ (match e with | .Starred .. => true | _=>false)=true:=fun e h=>by cases e<;>first | exact Bool.false_ne_true | cases h
  have h:=Bool.and_eq_true_iff.mp hst
  intro q
  rcases Bool.or_eq_true_iff.mp q with q | q
  ·exact st _ h.1 q
  ·rcases Bool.or_eq_true_iff.mp q with q | q
   ·exact st _ (Bool.and_eq_true_iff.mp h.2).1 q
   ·cases q
 ·dsimp only
  rw[DK (x:=x) (y:=y),DL hxy]
  ·exact AU Bool.false_ne_true (AU (by rw[hf];exact Bool.false_ne_true) (AU (by rw[hc];exact Bool.false_ne_true) rfl))
  ·exact if_pos (by rw[hx];exact beq_self_eq_true px.line)
  ·exact if_pos (by rw[hy];exact beq_iff_eq.mpr hl'.symm)
theorem dV {x y:String} {px py tp pos vp:Pos} {kt kv n:Nat} {e1 e2:Expr} {K:AFl→List (Str×AV)→List AO→Prop} {X:Nat→List (Str×AV)→List AO→Prop} (hn:C.n=some n) (hx:C.ls.contains (Str.ofString x)=true) (hy:C.ls.contains (Str.ofString y)=true)
  (hl:(px.line==py.line)=true) (hxy:(Str.ofString y==Str.ofString x)=false) (hst:iu [e1,e2]=true) (hf:[e1,e2].all (foldedForSure 8)=false) (hc:[e1,e2].all (constantsAlone 8)=false)
  (h:cW G C lv σ (.Tuple [e1,e2] kv vp) fun v σ₁=>∃i a b,v = .dyn i∧σ₁[i]? = some (.tuple [a,b])∧K .next (put (Str.ofString x) a (put (Str.ofString y) b lv)) σ₁)
  (hs:∀env,swapsWithSole [.Tuple [.Name (Str.ofString x) px,.Name (Str.ofString y) py] kt tp] (.Tuple [e1,e2] kv vp) pos.line env=pure false:=by intro _;rfl) :
  jS G C lv σ (.Assign [.Tuple [.Name (Str.ofString x) px,.Name (Str.ofString y) py] kt tp] (.Tuple [e1,e2] kv vp) pos) K X:=by
 (refine kZ h fun _ σ₁ ev i a b zz1 hi k=>?_;clear h;subst zz1)
 exact .inl ⟨_,_,_,fun F c=>s8 c.sc.kind (c.sc.loc _ hx) (c.sc.loc _ hy) (c.nh hn) (wV c.sc.kind (c.sc.loc _ hx) (c.sc.loc _ hy) hl hxy hst hf hc) (hs _) (ev F c) hi,k⟩
end
section
variable {G:Gd} {F:Fx} {A:Around} {C:Cx} {lv lv':List (Str×AV)} {σ σ':List AO}
theorem lu:fy G A σ (compareOp .Is) .none .none (.bool true) σ:=fun π s v u S hv hu Q E hq=>by
 cases hv;cases hu
 exact bn (wpAny_is_self rfl (hq π s _ S S.same rfl))
theorem sT:fy G A σ (compareOp .Is) (.dyn i) .none (.bool false) σ:=fun π s v u S hv hu Q E hq=>by
 (refine bD hv fun _ zz1=>?_;clear hv;subst zz1);cases hu
 exact bn (PyProof.Rows.is_ref_none (hq π s _ S S.same rfl))
theorem rq:xy G A σ (.int a) (a != 0) σ:=fun π s v S hv Q E h=>by
 (refine b8 hv fun t zz2=>?_;clear hv;subst zz2)
 exact bn (PyProof.Rows.truthy_int (h π s S S.same))
theorem gE {K:AV→List AO→Prop} (hs:jR G) (hi:σ[i]? = some (.idict es)) (k':K (.bool (!(lk es k).isSome)) σ):ib G C σ (compareOp .NotIn) (.int k) (.dyn i) K:=o2 (fun _=>ll hs hi) k'
theorem pJ {K:AV→List AO→Prop} (hi:σ[i]? = some (.idict es)) (ha:lk es k=some a) (hs:∀o i,subscripted slice false o i=operate [o,i] (getItem o i)) (k':K a σ):lj G C σ slice (.dyn i) (.int k) K:=xe (fun _=>sQ hi ha hs) k'
theorem wl {K:List AO→Prop} (hi:σ[i]? = some (.idict es)) (hz:es.length≤16777216) (k':K (σ.set i (.idict (st es k a)))):jT G C σ setItem (.dyn i) (.int k) a K:=od (fun _=>wh hi hz) k'
theorem jy {K:AV→List AO→Prop} (hi:σ[i]? = some (.sdict G.w es)) (ha:lk es k=some a) (hs:∀o i,subscripted slice false o i=operate [o,i] (getItem o i)) (k':K a σ):lj G C σ slice (.dyn i) (.str k) K:=xe (fun _=>sP hi ha hs) k'
theorem eK {K:List AO→Prop} (hi:σ[i]? = some (.sdict G.w es)) (hz:es.length≤16777216) (k':K (σ.set i (.sdict G.w (st es k a)))):jT G C σ setItem (.dyn i) (.str k) a K:=od (fun _=>wg hi hz) k'
theorem zb {K:Type} [DecidableEq K] {k:K}:lk (st [] k v) k=some v:=by simp[lk,st]
end
section
variable {G:Gd} {F:Fx} {A:Around} {C:Cx} {lv lv' lv₁ lv₂:List (Str×AV)} {σ σ' σ₁ σ₂ σ₃:List AO} {K:AV→List AO→Prop}
noncomputable def gU (ls:List Str) (x:Str):Bool:=ls.contains x && !(x==Str.ofString "__debug__")
theorem eX (h:gU ls (Str.ofString x)=true):ls.contains (Str.ofString x)=true∧x ≠ "__debug__" := by
 unfold gU at h
 rw[Bool.and_eq_true,Bool.not_eq_true',bG] at h
 exact⟨h.1,beq_eq_false_iff_ne.mp h.2⟩
noncomputable def pY (ls:List Str) (lv:List (Str×AV)) (x:Str):Option AV:=match gU ls x with
 | true=>(match lv.lookup x with
  | some .unk=>none
  | r=>r)
 | false=>none
theorem si (h:pY ls lv (Str.ofString x)=some a):gU ls (Str.ofString x)=true∧lv.lookup (Str.ofString x)=some a∧a ≠ .unk:=by
 unfold pY at h
 cases q:gU ls (Str.ofString x) with
 | false=>rw[q] at h;cases h
 | true =>
  rw[q] at h
  cases q2:lv.lookup (Str.ofString x) with
  | none=>rw[q2] at h;cases h
  | some b =>
   rw[q2] at h
   cases b<;>first | (cases h;done) | (cases h;exact⟨rfl,rfl,by intro q;cases q⟩)
theorem aa (h:pY C.ls lv (Str.ofString x)=some a) (k:K a σ):cW G C lv σ (.Name (Str.ofString x) pos) K:=by
 (refine dA (si h) fun h1 h2 h3=>?_)
 (refine bD (eX h1) fun h4 h5=>?_)
 exact iA h4 h2 h3 h5 k
theorem ax (B:Bs G gt bt) (h:gU C.gs (Str.ofString x)=true) (hv:gt.lookup (Str.ofString x)=some a) (k:K a σ):cW G C lv σ (.Name (Str.ofString x) pos) K:=xZ B (eX h).1 hv (eX h).2 k
theorem eq (B:Bs G gt bt) (h:gU C.gs (Str.ofString x)=true) (hv:bt.lookup (Str.ofString x)=some a) (k:K a σ):cW G C lv σ (.Name (Str.ofString x) pos) K:=yb B (eX h).1 hv (eX h).2 k
noncomputable def uz (ls:List Str) (x:Str):Bool:=gU ls x && !(x==Str.ofString "__classdict__")
theorem aQ (h:uz C.cs (Str.ofString x)=true) (hi:C.cl.lookup (Str.ofString x)=some i) (hv:σ[i]? = some (.cell (some a))) (k:K a σ):cW G C lv σ (.Name (Str.ofString x) pos) K:=by
 unfold uz at h
 rw[Bool.and_eq_true,Bool.not_eq_true',bG] at h
 exact ya (eX h.1).1 hi hv (eX h.1).2 (beq_eq_false_iff_ne.mp h.2) k
noncomputable def oX:List (Str×AV)→Str→Nat→Option Nat
 | [],_,_=>none
 | (y,_)::r,x,n=>match y==x with
  | true=>some n
  | false=>oX r x (n+1)
theorem np:∀ {l:List (Str×AV)} {n i:Nat},oX l x n=some i→n≤i∧put x a l=l.set (i - n) (x,a)
 | [],_,_,h=>by cases h
 | (y,b)::r,n,i,h=>by
  unfold oX at h
  cases q:y==x with
  | true =>
   rw[q] at h
   have:n=i:=Option.some.inj h
   subst this
   have e:y=x:=eq_of_beq q
   unfold put
   rw[if_pos e,Nat.sub_self,e]
   exact⟨Nat.le_refl _,rfl⟩
  | false =>
   rw[q] at h
   (refine bD (np (a:=a) (l:=r) h) fun h1 h2=>?_)
   have e:¬ (y=x):=fun e=>by rw[e] at q;simp at q
   refine⟨q1 1 0 0 0 h1 rfl,?_⟩
   unfold put
   rw[if_neg e,h2,show i - n=(i - (n+1))+1 by lia,List.set_cons_succ]
noncomputable def dX (ls:List Str) (lv:List (Str×AV)) (x:Str):Option Nat:=match ls.contains x with
 | true=>oX lv x 0
 | false=>none
theorem aw {K:List (Str×AV)→List AO→Prop} (h:dX C.ls lv (Str.ofString x)=some i) (k:K (lv.set i (Str.ofString x,a)) σ):fH G C lv σ (.Name (Str.ofString x) pos) a K:=by
 unfold dX at h
 cases q:C.ls.contains (Str.ofString x) with
 | false=>rw[q] at h;cases h
 | true =>
  rw[q] at h
  refine yn q ?_
  rw[(np h).2]
  exact k
theorem Dd {K:List (Str×AV)→List AO→Prop} (h:dX C.ls (p0::r) (Str.ofString x)=some 0) (k:K ((Str.ofString x,a)::r) σ):fH G C (p0::r) σ (.Name (Str.ofString x) pos) a K:=aw h k
theorem Dc {K:List (Str×AV)→List AO→Prop} (h:dX C.ls (p0::p1::r) (Str.ofString x)=some 1) (k:K (p0::(Str.ofString x,a)::r) σ):fH G C (p0::p1::r) σ (.Name (Str.ofString x) pos) a K:=aw h k
theorem Db {K:List (Str×AV)→List AO→Prop} (h:dX C.ls (p0::p1::p2::r) (Str.ofString x)=some 2) (k:K (p0::p1::(Str.ofString x,a)::r) σ):fH G C (p0::p1::p2::r) σ (.Name (Str.ofString x) pos) a K:=aw h k
theorem Da {K:List (Str×AV)→List AO→Prop} (h:dX C.ls (p0::p1::p2::p3::r) (Str.ofString x)=some 3) (k:K (p0::p1::p2::(Str.ofString x,a)::r) σ):fH G C (p0::p1::p2::p3::r) σ (.Name (Str.ofString x) pos) a K:=aw h k
theorem C9 {K:List (Str×AV)→List AO→Prop} (h:dX C.ls (p0::p1::p2::p3::p4::r) (Str.ofString x)=some 4) (k:K (p0::p1::p2::p3::(Str.ofString x,a)::r) σ):fH G C (p0::p1::p2::p3::p4::r) σ (.Name (Str.ofString x) pos) a K:=aw h k
theorem C8 {K:List (Str×AV)→List AO→Prop} (h:dX C.ls (p0::p1::p2::p3::p4::p5::r) (Str.ofString x)=some 5) (k:K (p0::p1::p2::p3::p4::(Str.ofString x,a)::r) σ):fH G C (p0::p1::p2::p3::p4::p5::r) σ (.Name (Str.ofString x) pos) a K:=aw h k
theorem C7 {K:List (Str×AV)→List AO→Prop} (h:dX C.ls (p0::p1::p2::p3::p4::p5::p6::r) (Str.ofString x)=some 6) (k:K (p0::p1::p2::p3::p4::p5::(Str.ofString x,a)::r) σ):fH G C (p0::p1::p2::p3::p4::p5::p6::r) σ (.Name (Str.ofString x) pos) a K:=aw h k
theorem C6 {K:List (Str×AV)→List AO→Prop} (h:dX C.ls (p0::p1::p2::p3::p4::p5::p6::p7::r) (Str.ofString x)=some 7) (k:K (p0::p1::p2::p3::p4::p5::p6::(Str.ofString x,a)::r) σ):fH G C (p0::p1::p2::p3::p4::p5::p6::p7::r) σ (.Name (Str.ofString x) pos) a K:=aw h k
theorem C5 {K:List (Str×AV)→List AO→Prop} (h:dX C.ls (p0::p1::p2::p3::p4::p5::p6::p7::p8::r) (Str.ofString x)=some 8) (k:K (p0::p1::p2::p3::p4::p5::p6::p7::(Str.ofString x,a)::r) σ):fH G C (p0::p1::p2::p3::p4::p5::p6::p7::p8::r) σ (.Name (Str.ofString x) pos) a K:=aw h k
theorem C4 {K:List (Str×AV)→List AO→Prop} (h:dX C.ls (p0::p1::p2::p3::p4::p5::p6::p7::p8::p9::r) (Str.ofString x)=some 9) (k:K (p0::p1::p2::p3::p4::p5::p6::p7::p8::(Str.ofString x,a)::r) σ):fH G C (p0::p1::p2::p3::p4::p5::p6::p7::p8::p9::r) σ (.Name (Str.ofString x) pos) a K:=aw h k
theorem B4 {K:List (Str×AV)→List AO→Prop} (h:dX C.ls (p0::p1::p2::p3::p4::p5::p6::p7::p8::p9::p10::r) (Str.ofString x)=some 10) (k:K (p0::p1::p2::p3::p4::p5::p6::p7::p8::p9::(Str.ofString x,a)::r) σ):fH G C (p0::p1::p2::p3::p4::p5::p6::p7::p8::p9::p10::r) σ (.Name (Str.ofString x) pos) a K:=aw h k
theorem B3 {K:List (Str×AV)→List AO→Prop} (h:dX C.ls (p0::p1::p2::p3::p4::p5::p6::p7::p8::p9::p10::p11::r) (Str.ofString x)=some 11) (k:K (p0::p1::p2::p3::p4::p5::p6::p7::p8::p9::p10::(Str.ofString x,a)::r) σ):fH G C (p0::p1::p2::p3::p4::p5::p6::p7::p8::p9::p10::p11::r) σ (.Name (Str.ofString x) pos) a K:=aw h k
theorem B0 {K:List (Str×AV)→List AO→Prop} (h:dX C.ls (p0::p1::p2::p3::p4::p5::p6::p7::p8::p9::p10::p11::p12::r) (Str.ofString x)=some 12) (k:K (p0::p1::p2::p3::p4::p5::p6::p7::p8::p9::p10::p11::(Str.ofString x,a)::r) σ):fH G C (p0::p1::p2::p3::p4::p5::p6::p7::p8::p9::p10::p11::p12::r) σ (.Name (Str.ofString x) pos) a K:=aw h k
theorem BZ {K:List (Str×AV)→List AO→Prop} (h:dX C.ls (p0::p1::p2::p3::p4::p5::p6::p7::p8::p9::p10::p11::p12::p13::r) (Str.ofString x)=some 13) (k:K (p0::p1::p2::p3::p4::p5::p6::p7::p8::p9::p10::p11::p12::(Str.ofString x,a)::r) σ):fH G C (p0::p1::p2::p3::p4::p5::p6::p7::p8::p9::p10::p11::p12::p13::r) σ (.Name (Str.ofString x) pos) a K:=aw h k
theorem de {K:List (Str×AV)→List AO→Prop} (ho:C.own=true) (h:C.cs.contains (Str.ofString x)=true) (hc:C.cl.lookup (Str.ofString x)=some i) (hi:σ[i]? = some (.cell v)) (k:K lv (σ.set i (.cell (some a)))):fH G C lv σ (.Name (Str.ofString x) pos) a K:=yo ho h hc hi k
theorem jH {P:List Value→Prop} (h:∀a,P [a]) (vs:List Value) (e:vs.length=1):P vs:=by
 cases vs with
 | nil=>cases e
 | cons a vs=>rw[List.length_eq_zero_iff.mp (Nat.succ.inj e)];exact h a
theorem iE {P:List Value→Prop} (h:∀a b,P [a,b]) (vs:List Value) (e:vs.length=2):P vs:=by
 cases vs with
 | nil=>cases e
 | cons a vs=>exact jH (P:=fun l=>P (a::l)) (h a) vs (Nat.succ.inj e)
theorem fW {P:List Value→Prop} (h:∀a b c,P [a,b,c]) (vs:List Value) (e:vs.length=3):P vs:=by
 cases vs with
 | nil=>cases e
 | cons a vs=>exact iE (P:=fun l=>P (a::l)) (h a) vs (Nat.succ.inj e)
theorem so {P:List Value→Prop} (h:∀a b c d,P [a,b,c,d]) (vs:List Value) (e:vs.length=4):P vs:=by
 cases vs with
 | nil=>cases e
 | cons a vs=>exact fW (P:=fun l=>P (a::l)) (h a) vs (Nat.succ.inj e)
theorem AL {P:List Value→Prop} (h:∀a b c d e,P [a,b,c,d,e]) (vs:List Value) (e:vs.length=5):P vs:=by
 cases vs with
 | nil=>cases e
 | cons a vs=>exact so (P:=fun l=>P (a::l)) (h a) vs (Nat.succ.inj e)
theorem CC {P:List Value→Prop} (h:∀a b c d e f,P [a,b,c,d,e,f]) (vs:List Value) (e:vs.length=6):P vs:=by
 cases vs with
 | nil=>cases e
 | cons a vs=>exact AL (P:=fun l=>P (a::l)) (h a) vs (Nat.succ.inj e)
theorem eW (h:(Nat.beq a b)=false):n+a≠n+b:=fun q=>by
 have:=Nat.add_left_cancel q
 subst this
 rw[Nat.beq_refl] at h;cases h
theorem rd:∀ {l:List (Str×AV)} {n:Nat},oX l x n=none→put x a l=l++[(x,a)]
 | [],_,_=>rfl
 | (y,b)::r,n,h=>by
  unfold oX at h
  cases q:y==x with
  | true=>rw[q] at h;cases h
  | false =>
   rw[q] at h
   have e:¬ (y=x):=fun e=>by rw[e] at q;simp at q
   unfold put
   rw[if_neg e,rd (l:=r) h];rfl
theorem yr {a b c:Int} (h:a < b) (k:b≤c):a < c:=Int.lt_of_lt_of_le h k
theorem yE {a c:Int} (h:0≤a) (k:c < 0):c < a:=Int.lt_of_lt_of_le k h
theorem bS {α:Type} {a b:α} {l:List α}:(a::l).set 0 b=b::l:=rfl
theorem bT {α:Type} {a b:α} {l:List α}:(a::l).set (n+1) b=a::l.set n b:=rfl
theorem cK {α:Type} {b:α}:([]:List α).set n b=[]:=rfl
theorem bV {α:Type} {a:α} {l m:List α}:(a::l)++m=a::(l++m):=rfl
theorem bU {α:Type} {m:List α}:[]++m=m:=rfl
theorem lxA {α:Type} {a b:List α}:(a++b).length=a.length+b.length:=List.length_append
theorem lxC {α:Type} {x:α} {l:List α}:(x::l).length=l.length+1:=rfl
theorem lxS {α:Type} {l:List α} {i:Nat} {x:α}:(l.set i x).length=l.length:=List.length_set
theorem lxN {α:Type}:([]:List α).length=0:=rfl
theorem lxZ {n m k:Nat}:n+m+k=n+(m+k):=Nat.add_assoc ..
theorem lxY {n:Nat}:0+n=n:=Nat.zero_add n
theorem lxM {α β:Type} {f:α→β} {l:List α}:(l.map f).length=l.length:=List.length_map ..
theorem lxg {α:Type} {a:α} {l:List α}:(a::l)[0]? = some a:=rfl
theorem lxh {α:Type} {a:α} {l:List α} {i:Nat}:(a::l)[i+1]? = l[i]? := rfl
theorem lxa {α:Type} {a b c:List α}:a++b++c=a++(b++c):=List.append_assoc ..
theorem lxm {α:Type} {a b:α} {l:List α}:a∈b::l↔a=b∨a∈l:=List.mem_cons
theorem lxn {α:Type} {a:α}:¬a∈([]:List α):=List.not_mem_nil
theorem lxp {α β:Type} {a:α} {b:β} {l:List α} {m:List β}:List.zip (a::l) (b::m)=(a,b)::List.zip l m:=rfl
theorem lxq {α β:Type} {l:List α}:List.zip l ([]:List β)=[]:=List.zip_nil_right
theorem lxr {α β:Type} {l:List β}:List.zip ([]:List α) l=[]:=rfl
theorem lxs {α β:Type} {f:α→β} {a:α} {l:List α}:(a::l).map f=f a::l.map f:=rfl
theorem lxt {α β:Type} {f:α→β}:([]:List α).map f=[]:=rfl
end
section
open PySem.SeqAt
namespace By
section
variable {prog:Program} {w:World} {A:Around} {E:Value→Shared→Prop} {s:Shared}
theorem ss (h:IntsAre vs ns) (hp:∀i t,p (.int i t)=(decide (0≤i) && decide (i < 256))):(∀n∈ns,0≤n∧n < 256)→vs.takeWhile p=vs:=by
 induction h with
 | nil=>exact fun _=>rfl
 | cons n t _ ih =>
  intro hr
  have h0:=hr _ (List.mem_cons_self ..)
  rw[List.takeWhile_cons,if_pos (by rw[hp];simp;assumption),ih fun m hm=>hr m (List.mem_cons_of_mem _ hm)]
theorem su (h:IntsAre vs ns) (hf:∀i t,f (.int i t)=some i.toNat.toUInt8):vs.filterMap f=cc ns:=by
 induction h with
 | nil=>rfl
 | cons n t _ ih=>rw[List.filterMap_cons,hf];simp only[ih];rfl
theorem qr (h:s.heap.get? l=some ol) (hd:ol.data = .seq vs nl) (hq:Q none s):wpAny M A (asStr? (.ref l)) Q E s:=wpAny_bind (wpAny_load h (by rw[hd];exact wpAny_pure hq))
theorem ug (h:s.heap.get? l=some ol) (hd:ol.data = .seq vs nl) (hq:Q (some vs) s):wpAny M A (seqItems? (.ref l)) Q E s:=wpAny_bind (wpAny_load h (by rw[hd];exact wpAny_pure hq))
theorem pj {id:String} (hT:s.TypeIs (.ref l) "list") (hq:Q none s):wpAny (model prog w) A (Builtin.Bytes.buffer? id (.ref l) full) Q E s :=
 wpAny_bind (wpAny_specialOf hT F.bm_no_buffer (wpAny_bind (wpAny_specialOf hT F.bm_no_buffer (wpAny_pure hq))))
theorem sv (h:s.heap.get? a=some (ba #[])) (hl:s.heap.IsList l vs.toArray) (hi:IntsAre vs ns) (hr:∀n∈ns,0≤n∧n < 256) (h1:vs.length≤sizeLine)
  (hq:∀h',h'.get? a=some (ba (cc ns).toArray)→(∀x o,x≠a→s.heap.get? x=some o→h'.get? x=some o)→Q (.done (.ret .none)) { s with heap:=h' }) :
  aS (model prog w) A (Builtin.«bytearray.__init__» ⟨[.ref a,.ref l],[]⟩) Q E s:=by
 (refine zg (id hl) fun ol hol hoc nl hod=>?_)
 have hla:l≠a:=fun q=>by subst q;rw[h] at hol;cases hol;cases hod
 refine ae (bn (dJ h (bp Bool.false_ne_true (cA (vd _) (cA (a:=()) rfl (cA (a:=()) rfl (ae (eG h (bp Bool.false_ne_true (ae (bn (dI (f:=fun _=>#[]) h (by decide) fun h' e k=>?_))))))))))))
 have hol':h'.get? l=some ol:=k l ol hla hol
 have hT:({ s with heap:=h' }:Shared).TypeIs (.ref l) "list" := ⟨ol,hol',hoc⟩
 refine ae (bn (qr hol' hod (bp Bool.false_ne_true (ae (bp Bool.false_ne_true (bp Bool.false_ne_true (ak (ae (bn (wpAny_specialOf hT F.bm_no_index (bp Bool.false_ne_true (ae (bn (pj hT (ae (bn (wpAny_typeOf_ref hol' (fR (by rw[hoc];rfl) (ae (bn (ug hol' hod ?_)))))))))))))))))))))
 dsimp only
 rw[ss hi (fun _ _=>rfl) hr,su hi (fun _ _=>rfl),show vs.toArray[vs.length]? = none by simp]
 have hol:=hi.length
 have ho:(cc ns).length=ns.length:=by simp[cc]
 exact ae (bn (wpAny_rule (ae (bn (dI (f:=fun _=>(cc ns).toArray) e (by simp only[List.size_toArray];exact q2 0 0 0 16777216 0 16777216 (q2 0 0 0 0 0 0 (Nat.le_of_eq ho) (Nat.le_of_eq hol.symm) rfl) h1 rfl) fun h'' e'' k''=>ak (hq h'' e'' fun x o hx ho=>k'' x o hx (k x o hx ho)))))))
theorem call_of_list (hl:s.heap.IsList l vs.toArray) (hi:IntsAre vs ns) (hr:∀n∈ns,0≤n∧n < 256) (h1:vs.length≤sizeLine)
  (hq:∀h' a,s.heap.get? a=none→h'.get? a=some (ba (cc ns).toArray)→(∀x o,s.heap.get? x=some o→h'.get? x=some o)→Q (.ref a) { s with heap:=h' }):aS (model prog w) A (call (.type "bytearray") [.ref l]) Q E s:=by
 refine ez nQ (jD _) gh (fun _=>rfl) (jq _ ?_)
 have hn:s.heap.get? s.heap.objs.size=none:=Heap.get?_none_of_le (Nat.le_refl _)
 have he:(s.heap.push (ba #[])).get? s.heap.objs.size=some (ba #[]):=Heap.get?_push_size _ rfl
 refine⟨⟨_,he,rfl⟩,vh _ _,sv he (hl.push _) hi hr h1 fun h' e k=>⟨rfl,hq h' _ hn e fun x o ho=>k x o (fun q=>by rw[q,hn] at ho;cases ho) (Heap.get?_push_of_some _ ho)⟩⟩
end
end By
variable {G:Gd} {F:Fx} {A:Around} {C:Cx} {lv lv' lv₁ lv₂:List (Str×AV)} {σ σ' σ₁ σ₂ σ₃:List AO} {π π' π₁:PM} {s s' s₁:Shared} {a b:Int}
theorem zr (h:0≤b) (h2:b≤1000000) (ha:a.natAbs < 2 ^ 64):fy G A σ (binaryOp .Pow) (.int a) (.int b) (.int (a ^ b.toNat)) σ:=da fun _ _ _ _ _ q=>PyProof.Rows.pow_int_small h h2 ha q
theorem sW {a b:Bool}:fy G A σ (compareOp .Eq) (.bool a) (.bool b) (.bool (a==b)) σ:=fun π s v u S hv hu Q E hq=>by
 cases hv;cases hu
 exact bn (eq_bool (hq π _ _ S S.same rfl))
theorem zC {e st:Expr} (x:Ev G F lv σ e (.dyn i) σ₁) (y:Ev G F lv σ₁ st (.int (-1)) σ₁) (hi:σ₁[i]? = some (.list xs)) (hz:xs.length≤16777216)
  (hs:∀o i,subscripted (.Slice none none (some st) sp) false o i=operate [o,i] (getItem o i):=by intro _ _;with_unfolding_all rfl) :
  Ev G F lv σ (.Subscript e (.Slice none none (some st) sp) pos) (.dyn (σ₁.length+1)) (σ₁++[AO.gone,AO.list xs.reverse]):=fun π s S Q E h=>by
 refine iF (x π s S _ E fun π₁ s₁ v₁ C₁ W₁ R₁=>?_)
 rw[arm_eval_Slice]
 refine ae (ak (ae (aq (ak (ae (aq ?_))))))
 refine y π₁ s₁ (S.fwd C₁ W₁) _ E fun π₂ s₂ v₂ C₂ W₂ R₂=>?_
 (refine b8 R₂ fun t zz4=>?_;clear R₂;subst zz4)
 refine bn (wpAny_newObj_type ?_)
 (refine fc (C₂.alloc (X:=cG) (s':={ s₂ with heap:=s₂.heap.push { cls := .type "slice",data := .fields #[.none,.none,.int (-1) t] } }) (ao := .gone) s₂.heap.objs.size s₂.heap.objs.size bw (aC _) (aC _) (fun π' e e1 _=>trivial) rfl rfl) fun π₃ C₃ W₃ e₃ _=>?_)
 (refine bD R₁ fun hlt zz8=>?_;clear R₁;subst zz8)
 have W₂₃:=W₂.transN W₃
 (refine aF (C₃.rep.at_ i _ (ad hi)) fun vs hl hvs=>?_)
 rw[W₂₃.ext.a i hlt] at hl
 have ho:(s₂.heap.push { cls := .type "slice",data := .fields #[.none,.none,.int (-1) t] }).IsSliceOf s₂.heap.objs.size .none .none (.int (-1) t):=⟨_,Heap.get?_push_size _ rfl,rfl,rfl⟩
 refine bn (tail_any hl.isList.typeIs slot_list_getitem.lookup (wpAny_getItem_list_slice hl.isList ho .none .none (.int (-1) t) (by decide) ?_ (by rw[VRs.size hvs,sizeLine_eq];exact hz)) (hs _ _))
 rw[krv_pick]
 refine kf (ao := .list xs.reverse) (k:=s₂.toks) C₃ bw (aC _) (fun π' e e1=>⟨vs.reverse,⟨0,by rw[e1];exact Heap.get?_push_size _ rfl⟩,VRs.mono (All2.reverse hvs) e (Nat.le_succ _)⟩) fun π₄ s₄ v₄ C₄ W₄ R₄=>?_
 rw[List.append_assoc] at C₄ W₄ R₄
 have R₅:VR π₄ (σ₁++[AO.gone,AO.list xs.reverse]).length (.dyn (σ₁.length+1)) v₄:=by
  (refine bD R₄ fun r1 r2=>?_;clear R₄)
  refine⟨by simp,?_⟩
  rw[r2]
  simp
 exact h π₄ s₄ v₄ C₄ ((W₁.transN W₂₃).transN W₄) R₅
theorem xY {e st:Expr} {K:AV→List AO→Prop} (h:cW G C lv σ e fun x σ₁=>∃i xs,x = .dyn i∧σ₁[i]? = some (.list xs)∧xs.length≤16777216∧cW G C lv σ₁ st fun y σ₂=>y = .int (-1)∧σ₂=σ₁∧K (.dyn (σ₁.length+1)) (σ₁++[AO.gone,AO.list xs.reverse]))
  (hs:∀o i,subscripted (.Slice none none (some st) sp) false o i=operate [o,i] (getItem o i):=by intro _ _;with_unfolding_all rfl):cW G C lv σ (.Subscript e (.Slice none none (some st) sp) pos) K:=by
 (refine kj h fun _ σ₁ x i xs zz10 hi hz _ _ y zz11 zz12 k=>?_;clear h;subst zz10;subst zz11;subst zz12)
 exact⟨_,_,fun F c=>zC (x F c) (y F c) hi hz hs,k⟩
def wc (G:Gd) (F:Fx) (lv:List (Str×AV)) (σ:List AO) (pos:Pos) (ks:List (Option Expr)) (vs:List Expr) (es:List (Str×AV)) (σ':List AO):Prop :=
 ∀π s,St G F lv σ π s→∀ (Q:List (Value×Value)→Shared→Prop) E,(∀π' s' prs kvs,StC G.g F.A σ' π' s'→Fwd F.A cG σ π s σ' π' s'→Carries (PySem.strKind G.prog G.w) prs kvs→EsR π' σ'.length es kvs→Q prs s')→aS G.M F.A (evalPairs (pairTrees ks vs F.env pos)) Q E s
theorem wb:wc G F lv σ pos [] [] [] σ:=fun π s S Q E h=>ak (h π s [] [] S.c S.c.same trivial .nil)
theorem tr {a:AV} (x:Ev G F lv σ v a σ₁) (y:wc G F lv σ₁ pos ks vs es σ₂):wc G F lv σ pos (some (.Constant (.str k) kk kp)::ks) (v::vs) ((k,a)::es) σ₂:=fun π s S Q E h=>by
 show aS _ _ (do let kv←eval (.Constant (.str k) kk kp) F.env;let vv←holding [kv] (do let x←eval v F.env;standAt pos;pure x);return (kv,vv)::(← holding [kv,vv] (evalPairs (pairTrees ks vs F.env pos)))) _ _ _
 refine ae (vR π s S _ E fun π₀ s₀ v₀ C₀ W₀ R₀=>?_)
 (refine b8 R₀ fun t zz25=>?_;clear R₀;subst zz25)
 refine ae (aq (ae (x π₀ s₀ (S.fwd C₀ W₀) _ E fun π₁ s₁ v₁ C₁ W₁ R₁=>ae (bz (ak ?_)))))
 refine ae (aq (y π₁ s₁ (S.fwd C₁ (W₀.transN W₁)) _ E fun π₂ s₂ prs kvs C₂ W₂ c₂ e₂=>ak ?_))
 exact h π₂ s₂ _ ((k,v₁)::kvs) C₂ ((W₀.transN W₁).transN W₂) ⟨kC ..,rfl,c₂⟩ (.cons ⟨rfl,R₁.mono W₂.ext W₂.len⟩ e₂)
noncomputable def sts (es:List (Str×AV)):List (Str×AV)→List (Str×AV)
 | []=>es
 | (k,a)::r=>sts (st es k a) r
theorem EsR.sts (h':EsR π n r kvs):∀ {es:List (Str×AV)} {acc:List (Str×Value)},EsR π n es acc→EsR π n (Mine.sts es r) (merged acc kvs):=by
 induction h' with
 | nil=>exact fun h=>h
 | @cons p q _ _ e _ ih =>
  obtain⟨k,a⟩:=p
  obtain⟨k',v⟩:=q
  obtain rfl:k=k':=e.1
  exact fun h=>ih (EsR.st (k:=k) h e.2)
theorem vV (hall:ks.all (·.isSome)=true) (hl:ks.length=vs.length) (h0:ks≠[]) (hlen:ks.length≤15) (he:es.length≤15)
  (x:wc G F lv (σ++[.sdict G.w []]) pos ks vs es σ₂) (hd:σ₂[σ.length]? = some (.sdict G.w [])):Ev G F lv σ (.Dict ks vs pos) (.dyn σ.length) (σ₂.set σ.length (.sdict G.w (sts [] es))):=fun π s S Q E h=>by
 have hn:=pairTrees_length ks vs F.env pos hall hl
 have hp0:pairTrees ks vs F.env pos≠[]:=by
  intro he
  rw[he] at hn
  exact h0 (List.length_eq_zero_iff.mp hn.symm)
 rw[arm_eval_Dict,zip_pairTrees ks vs F.env pos hall hl,dictDisplay_pairs _ hp0 (by rw[hn];exact q1 0 15 1 17 hlen rfl)]
 refine ae (bz (ae ?_))
 unfold subDict
 refine ae (bn (wpAny_alloc ?_))
 refine ae (aq ?_)
 rw[if_pos (by rw[hn];exact hlen)]
 obtain⟨π₁,C₁,W₁,e₁,_⟩:=S.c.alloc (X:=cG) (s':={ s with heap:=s.heap.push { cls := .type "dict",data := .dict #[] } }) (ao := .sdict G.w []) s.heap.objs.size s.heap.objs.size bw (aC _) (aC _) (fun π' e e1 _=>⟨G.prog,[],by
  rw[e1];exact⟨_,#[],0,Heap.get?_push_size _ rfl,⟨rfl,rfl,rfl⟩,rfl,fun _ he=>by simp at he,.nil,List.nodup_nil⟩,.nil⟩) rfl rfl
 refine ae (x π₁ _ (S.fwd C₁ W₁) _ E fun π₂ s₂ prs kvs C₂ W₂ c₂ e₂=>aq ?_)
 (refine aF (lf C₂ hd) fun acc d1 d2=>?_)
 cases d2
 have ea:π₂.a σ.length=s.heap.objs.size:=by rw[W₂.ext.a _ (by simp),e₁]
 rw[ea] at d1
 have hk:kvs.length=es.length:=e₂.length
 refine ae (bn (wpAny_storeAll (knd:=PySem.strKind G.prog G.w) prs kvs [] s₂ _ c₂ d1 (by rw[sizeLine_eq,List.length_nil];exact mI (Nat.le_of_eq hk) he) fun h' hm' hs'=>ak (ak (ak ?_))))
 (refine bD (C₂.update (X:=cG) (s':={ s₂ with heap:=h',toks:=s₂.toks+prs.length }) (o' := .sdict G.w (sts [] es)) hd rfl (fun c ob hc eo=>(hs'.2 c fun q=>hc (by rw[q,← ea];simp[own])).trans eo) ⟨G.prog,_,by rw[ea];exact hm',EsR.sts e₂ .nil⟩ rfl rfl) fun C₃ W₃=>?_)
 exact h π₂ _ _ C₃ ((W₁.transN W₂).transN W₃) ⟨by rw[List.length_set];exact(List.getElem?_eq_some_iff.mp hd).1,by rw[ea]⟩
def rB (G:Gd) (C:Cx) (lv:List (Str×AV)) (σ:List AO) (pos:Pos) (ks:List (Option Expr)) (vs:List Expr) (K:List (Str×AV)→List AO→Prop):Prop:=∃es σ',(∀F,C.Ok F→wc G F lv σ pos ks vs es σ')∧K es σ'
theorem tv {K:List (Str×AV)→List AO→Prop} (k:K [] σ):rB G C lv σ pos [] [] K:=⟨_,_,fun _ _=>wb,k⟩
theorem gw {K:List (Str×AV)→List AO→Prop} (h:cW G C lv σ v fun a σ₁=>rB G C lv σ₁ pos ks vs fun es σ₂=>K ((x,a)::es) σ₂):rB G C lv σ pos (some (.Constant (.str x) kk kp)::ks) (v::vs) K:=by
 (refine dK h fun a σ₁ x es σ₂ y k=>?_;clear h)
 exact⟨_,_,fun F c=>tr (x F c) (y F c),k⟩
theorem ty {K:AV→List AO→Prop} (h:rB G C lv (σ++[.sdict G.w []]) pos ks vs fun es σ₂=>es.length≤15∧σ₂[σ.length]? = some (.sdict G.w [])∧K (.dyn σ.length) (σ₂.set σ.length (.sdict G.w (sts [] es))))
  (hall:ks.all (·.isSome)=true:=by rfl) (hl:ks.length=vs.length:=by rfl) (h0:ks≠[]:=by simp) (hlen:ks.length≤15:=by decide):cW G C lv σ (.Dict ks vs pos) K:=by
 (refine kn h fun es σ₂ x he hd k=>?_;clear h)
 exact⟨_,_,fun F c=>vV hall hl h0 hlen he (x F c) hd,k⟩
theorem lN (hi:σ[i]? = some (.list (ns.map .int))) (hr:∀n∈ns,0≤n∧n < 256) (hz:ns.length≤16777216):Cl G A σ (.type "bytearray") [.dyn i] (.dyn σ.length) (σ++[.barr (cc ns)]):=fun π s fv vs S hf hv Q E hq=>by
 subst hf
 cases hv with
 | cons hx hr' =>
  cases hr'
  (refine bD hx fun _ zz36=>?_;clear hx;subst zz36)
  (refine aF (S.rep.at_ i _ hi) fun vs hl hvs=>?_)
  have hI:=jj hvs
  exact By.call_of_list hl.isList hI hr (by rw[hI.length,sizeLine_eq];exact hz) fun h' a hn e k=>kf (k:=s.toks) S k hn (fun π' _ e1=>by show h'.get? _=_;rw[e1,e]) hq
end
section
variable {G:Gd} {F:Fx} {A:Around} {C:Cx} {lv lv' lv₁ lv₂:List (Str×AV)} {σ σ' σ₁ σ₂ σ₃:List AO} {π π' π₁:PM} {s s' s₁:Shared}
def C2 (g:Heap) (π:PM) (σ:List AO) (h₀ h:Heap) (e L:Addr):Prop :=
 ∃oe vs T oT ts,h.get? e=some oe∧oe.data = .fields vs∧vs[1]? = some (.ref T)∧T≠e∧h.get? T=some oT∧oT.data = .fields ts∧ts[3]? = some (rawInt L)∧h₀.get? T=none∧¬Tr π σ T∧g.get? T=none
theorem uF {C:Addr} (S:StC G.g F.A σ π s) (hfr:F.A.frames=some (F.env::outer)) (hf:F.env.frame=some L) (hi:σ[i]? = some (.exc C j false))
  (R:Rest G.g π σ h₀ s.heap (π.a i)) (hdom:∀b,s.heap.get? b=none→h₀.get? b=none)
  (hQ:∀s',StC G.g F.A σ π s'→(∃X:Addr→Prop,(∀b,X b→h₀.get? b=none∧¬Tr π σ b)∧Fwd F.A X σ π s σ π s')→C2 G.g π σ h₀ s'.heap (π.a i) L→E (.ref (π.a i)) s') :
  jf G F E (.ref (π.a i)) s:=by
 (refine cy R fun oe vs he hd hr=>?_;clear R)
 (refine aF (S.frs) fun fs f1 f2=>?_)
 have efs:fs=F.env::outer:=Option.some.inj (f1.symm.trans hfr)
 subst efs
 (refine cP (S.rep.at_ i _ hi) fun o vs' x ho hc hod hj hdat h1 _=>?_)
 obtain rfl:o=oe:=Option.some.inj (ho.symm.trans he)
 obtain rfl:vs'=vs:=by rw[hd] at hdat;cases hdat;rfl
 have hsz:1 < vs'.size:=(Array.getElem?_eq_some_iff.mp h1).1
 have nfr:∀T oT (ts:Array Value),s.heap.get? T=some oT→oT.data = .fields ts→T ∉ frs F.A:=fun T oT ts hT hdT q=>by
  rw[ew hfr] at q
  (refine aF (List.mem_filterMap.mp q) fun f hf' e'=>?_)
  (refine hS (f2 f hf') fun _ L' o' a b c _=>?_)
  rw[a] at e';cases e'
  rw[b] at hT;cases hT;exact c ts hdT
 show aS G.M F.A (noteFrame (.ref (π.a i)) F.env) _ _ s
 refine bn (iI (M:=G.M) hfr (FrsOk.fun f2) hf he hd ?_ fun h' T hT he' hT' hk=>?_)
 ·rcases hr with h1 | ⟨T,oT,ts,h1,hTe,hT,hdT,h3,_⟩
  ·exact .inl h1
  ·exact .inr ⟨T,oT,ts,_,h1,hTe,hT,hdT,h3,by simp[rawInt]⟩
 (refine cy hT' fun oT ts hT1 hT2 hT3=>?_;clear hT')
 have hTe:T≠π.a i:=fun q=>by rw[q,he] at hT;cases hT
 have hd':=Obj.data_mapFields hd (·.setIfInBounds 1 (Value.ref T))
 unfold fZ
 refine ae (bn (wpAny_field (s:={ s with heap:=h' }) (x := .ref T) he' hd' (by simp[hsz]) ?_))
 rw[if_neg (show ¬ ((Value.ref T==Value.none)=true) from fun q=>nomatch eq_of_beq q),hf]
 refine bn (eA (s:={ s with heap:=h' }) he' hd' (by simp[hsz]) hTe hT1 hT2 hT3 fun h'' ⟨oT',ts',k1,k2,k3⟩ kk=>?_)
 have he'':h''.get? (π.a i)=some (Obj.mapFields (·.setIfInBounds 1 (.ref T)) o):=(kk _ (Ne.symm hTe)).trans he'
 have hX:∀b,(vs'[1]? = some (.ref b)∨b=T)→¬Tr π σ b∧G.g.get? b=none∧b ∉ frs F.A∧h₀.get? b=none:=fun b hb=>by
  rcases hb with hb | rfl
  ·rcases hr with q | ⟨T₀,oT₀,ts₀,q1,q2,q3,q4,q5,q6,q7,q8⟩
   ·rw[q] at hb;cases hb
   ·rw[q1] at hb;cases hb;exact⟨q7,q8,nfr _ _ _ q3 q4,q6⟩
  ·refine⟨fun t=>?_,?_,fun q=>?_,hdom _ hT⟩
   ·(refine b8 (S.rep.there t) fun ob q=>?_);rw[hT] at q;cases q
   ·cases q:G.g.get? b with
    | none=>rfl
    | some ob=>have:=S.keepg _ _ q;rw[hT] at this;cases this
   ·rw[ew hfr] at q
    (refine aF (List.mem_filterMap.mp q) fun f hf' e'=>?_)
    (refine jo (f2 f hf') fun _ L' o' a b _=>?_)
    rw[a] at e';cases e';rw[hT] at b;cases b
 obtain⟨S',W'⟩:=S.touch (s':={ s with heap:=h'' }) (X:=fun b=>vs'[1]? = some (.ref b)∨b=T) hi rfl (fun b hb=>⟨(hX b hb).1,(hX b hb).2.1,(hX b hb).2.2.1⟩) (fun b ob hb e=>by
  have hbT:b≠T:=fun q=>hb (.inr (.inr q))
  (refine hZ (hk b ob (fun q=>hb (q.elim .inl fun q => .inr (.inl q))) e) fun a1 sl a2=>?_)
  rw[ew hfr]
  exact⟨fun q=>(kk b hbT).trans (a1 q),sl,(kk b hbT).trans a2⟩)
  ⟨_,_,.ref T,he'',(by rw[Obj.cls_mapFields];exact hc),(by obtain⟨_,_,dt,_⟩:=o;cases dt<;>exact hod),hj,hd',by simp[hsz],fun q=>by cases q⟩ rfl rfl
 exact hQ _ S' ⟨_,fun b hb=>⟨(hX b hb).2.2.2,(hX b hb).1⟩,W'⟩ ⟨_,_,T,oT',ts',he'',hd',by simp[hsz],hTe,k1,k2,k3,(hX T (.inr rfl)).2.2.2,(hX T (.inr rfl)).1,(hX T (.inr rfl)).2.1⟩
theorem xo {C:Addr} {Q:Shared→Prop} (S:StC g A σ π s) (hf:env.frame=some L) (hi:σ[i]? = some (.exc C j false)) (R:C2 g π σ h₀ s.heap (π.a i) L)
  (hQ:∀s',StC g A σ π s'→(∃X:Addr→Prop,(∀b,X b→h₀.get? b=none∧¬Tr π σ b)∧Fwd A X σ π s σ π s')→Rest g π σ h₀ s'.heap (π.a i)→Q s') :
  aS M A (noteFrame (.ref (π.a i)) env) (fun _ s₂=>aS M A (setFlight (.ref (π.a i)) none) (fun _ s₃=>Q s₃) E s₂) E s:=by
 (refine jI (id R) fun oe vs T oT ts he hd h1 hTe hT hdT h3 q6 q7 q8=>?_)
 refine bn (ke hf he hd h1 hT hdT h3 ?_)
 refine bn (eA he hd h1 hTe hT hdT h3 fun h'' ⟨oT',ts',k1,k2,k3⟩ kk=>?_)
 (refine cP (S.rep.at_ i _ hi) fun o vs' x ho hc hod hj hdat h1' _=>?_)
 (refine aF (S.frs) fun fs f1 f2=>?_)
 have hnf:T ∉ frs A:=fun q=>by
  rw[ew f1] at q
  (refine aF (List.mem_filterMap.mp q) fun f hf' e'=>?_)
  (refine hS (f2 f hf') fun _ L' o' a b c _=>?_)
  rw[a] at e';cases e'
  rw[b] at hT;cases hT;exact c ts hdT
 obtain⟨S',W'⟩:=S.touch (s':={ s with heap:=h'' }) (X:=fun b=>b=T) hi rfl (fun b hb=>by subst hb;exact⟨q7,q8,hnf⟩) (fun b ob hb e=>⟨fun _=>(kk b fun q=>hb (.inr q)).trans e,ob.slots,(kk b fun q=>hb (.inr q)).trans e⟩)
  ⟨o,vs',x,(kk _ (Ne.symm hTe)).trans ho,hc,hod,hj,hdat,h1',fun q=>by cases q⟩ rfl rfl
 exact hQ _ S' ⟨_,fun b hb=>by subst hb;exact⟨q6,q7⟩,W'⟩ ⟨oe,vs,(kk _ (Ne.symm hTe)).trans he,hd,.inr ⟨T,oT',ts',h1,hTe,k1,k2,k3,q6,q7,q8⟩⟩
inductive LpX (G:Gd) (F:Fx) (target:Expr) (body:List Stmt) (ok:List AO→Prop) (xs:List AV):Nat→List (Str×AV)→List AO→Nat→List (Str×AV)→List AO→Prop
 | here {k lv σ a lv₁ σ₁ i lv₂ σ₂}:xs[k]? = some a→ok σ→As G F lv σ target a lv₁ σ₁→xJ G F lv₁ σ₁ body i lv₂ σ₂→LpX G F target body ok xs k lv σ i lv₂ σ₂
 | step {k lv σ a lv₁ σ₁ fl lv₂ lw σ₂ i lv₃ σ₃}:xs[k]? = some a→ok σ→As G F lv σ target a lv₁ σ₁→Ex G F lv₁ σ₁ body fl lv₂ σ₂→fl = .next∨fl = .cont→Wk lv₂ lw→LpX G F target body ok xs (k+1) lw σ₂ i lv₃ σ₃→LpX G F target body ok xs k lv σ i lv₃ σ₃
def Dl (G:Gd) (F:Fx) (lv:List (Str×AV)) (σ:List AO) (st:List Stmt) (i:Nat) (lv':List (Str×AV)) (σ':List AO):Prop :=
 ∀π s,St G F lv σ π s→∀Q E,(∀π' s' L,F.env.frame=some L→St G F lv' σ' π' s'→Fwd F.A (·=F.env.locals) σ π s σ' π' s'→C2 G.g π' σ' s.heap s'.heap (π'.a i) L→E (.ref (π'.a i)) s')→aS G.M F.A (execs st F.env) Q E s
theorem yD (S:St G F lv σ π s) (B:Beside G F.A σ π s I):∀b,b=F.env.locals∨b=I→∃o,s.heap.get? b=some o:=fun b hb=>hb.elim (fun e=>by
 subst e;(refine aF (S.loc) fun m zz80 _=>?_;refine cM zz80 fun o es ep l1 _=>?_);exact⟨o,l1⟩) fun e=>e ▸ B.there
theorem xK {ok:List AO→Prop} {C:Addr} (FM:Fm F) (hi:σ₂[i]? = some (.exc C j false)) (ev:Ev G F lv σ iter x σ₁) (it:vA G F.A σ₁ x xs ok) (lp:LpX G F target body ok xs 0 lv σ₁ i lv₂ σ₂)
  (hs:∀env x,foldedSetIterable iter env x=pure x:=by intro _ _;rfl) :
  Dl G F lv σ (.For target iter body [] pos::rest) i lv₂ σ₂:=fun π s S Q E h=>by
 refine dj ?_
 generalize hQ':(fun(f:Flow) (s':Shared)=>match f with
   | .next=>aS G.M F.A (execs rest F.env) Q E s'
   | f=>Q f s')=Q₀
 refine(qZ (ev π s S _ E fun π₁ s₁ v₁ C₁ W₁ R₁=>it π₁ s₁ v₁ C₁ R₁ _ E fun I s₂ P C₂ W₂ hI hI' P0 WK=>?_) (hs _))
 (refine b8 (FM.fr) fun A₀ hfr=>?_)
 (refine b8 (FM.own) fun L hf=>?_)
 obtain⟨outer,hfr'⟩:∃outer,F.A.frames=some (F.env::outer):=by
  (refine aF (S.c.frs) fun fs f1 _=>?_)
  rw[hfr] at f1 ⊢
  cases q:A₀.frames with
  | none=>rw[q] at f1;cases f1
  | some l=>exact⟨l,rfl⟩
 have B₂:=Beside.new (G:=G) C₁ hI C₂ hI'
 have hLI:=(S.fwd C₁ W₁).neI hI
 let Inv:Nat→Shared→Prop:=fun m s'=>∃k lvk σk πk,m=xs.length+1 - k∧k≤xs.length∧LpX G F target body ok xs k lvk σk i lv₂ σ₂∧St G F lvk σk πk s'∧Fwd F.A (fun b=>b=F.env.locals∨b=I) σ₁ π₁ s₂ σk πk s'∧Beside G F.A σk πk s' I∧P k s'.heap
 refine iK (E:=E) Inv (fun n s' hInv=>?_) _ ⟨0,lv,σ₁,π₁,rfl,Nat.zero_le _,lp,S.fwd C₂ (W₁.transN W₂),(C₂.same).toX,B₂,P0⟩
 (refine jl hInv fun k lvk σk πk hm hk hlp Sk Wk Bk Pk=>?_;clear hInv)
 have front:∀ (a:AV) lv₁' σ₁' (Z:Unit→Shared→Prop) (Z':Value→Shared→Prop),xs[k]? = some a→ok σk→As G F lvk σk target a lv₁' σ₁' →
   (∀π₆ s₆,St G F lv₁' σ₁' π₆ s₆→Fwd F.A (fun b=>b=F.env.locals∨b=I) σ₁ π₁ s₂ σ₁' π₆ s₆→Beside G F.A σ₁' π₆ s₆ I→P (k+1) s₆.heap→Z () s₆) →
   aS G.M F.A (pyNext (.ref I)) (fun r s₁=>match r with
    | none=>Q₀ .next s₁
    | some v=>aS G.M F.A (letOwnedTupleGo target (.ref I) v) (fun _ s₁'=>aS G.M F.A (assign target F.env v) (fun _ s₂=>Z () s₂) Z' s₁') Z' s₁) Z' s':=fun a lv₁' σ₁' Z Z' ha hok has goal=>by
  refine WK.item k a πk σk s' ha hok Wk.ext Wk.len Sk.c Bk Pk _ _ fun s₅ v C₅ W₅ P₅ T₅ R₅=>WK.go _ _ P₅ _ _ _ _ _ (has πk s₅ v (Sk.fwdI C₅ W₅ hLI) R₅ _ _ fun π₆ s₆ S₆ W₆=>?_)
  (refine bD (Beside.fwd ⟨T₅,Bk.off,Bk.offg,Bk.offf⟩ W₆ hLI.symm) fun B₆ e₆=>?_)
  exact goal π₆ s₆ S₆ ((Wk.trans (W₅.widen fun _ q => .inr q) (gR Sk Bk)).trans (W₆.widen fun _ q => .inl q) (gR S₆ B₆)) B₆ (WK.frame _ _ _ P₅ e₆)
 cases hlp with
 | step ha hok has hex hfl hwk hrest =>
  have hlt:k < xs.length:=(List.getElem?_eq_some_iff.mp ha).1
  refine front _ _ _ (fun _ s₆=>aS G.M F.A (execs body F.env) (fun f s₃=>match f with
   | .next | .cont=>∃m,m < n∧Inv m s₃
   | .brk=>Q₀ .next s₃
   | .ret v=>Q₀ (.ret v) s₃) (jf G F E) s₆) (jf G F E) ha hok has fun π₆ s₆ S₆ W₆ B₆ P₆=>hex π₆ s₆ S₆ _ _ fun π₇ s₇ fl' S₇ W₇ R₇=>?_
  (refine bD (B₆.fwd W₇ hLI.symm) fun B₇ e₇=>?_)
  have:∃m,m < n∧Inv m s₇:=⟨xs.length+1 - (k+1),hm ▸ Nat.sub_lt_sub_left (Nat.lt_succ_of_lt hlt) (Nat.lt_succ_self k),k+1,_,_,π₇,rfl,hlt,hrest,S₇.wk hwk,W₆.trans (W₇.widen fun _ q => .inl q) (gR S₇ B₇),B₇,WK.frame _ _ _ P₆ e₇⟩
  rcases hfl with rfl | rfl<;>cases R₇<;>exact this
 | here ha hok has hex =>
  refine front _ _ _ (fun _ s₆=>aS G.M F.A (execs body F.env) (fun f s₃=>match f with
   | .next | .cont=>∃m,m < n∧Inv m s₃
   | .brk=>Q₀ .next s₃
   | .ret v=>Q₀ (.ret v) s₃) (jf G F E) s₆) (jf G F E) ha hok has fun π₆ s₆ S₆ W₆ B₆ P₆=>hex π₆ s₆ S₆ _ _ fun π₇ s₇ S₇ W₇ R₇=>?_
  (refine bD (B₆.fwd W₇ hLI.symm) fun B₇ e₇=>?_)
  have W6:=(W₁.transN W₂).toX.trans W₆ (gR S₆ B₆)
  have W:=(W₁.transN W₂).toX.trans (W₆.trans (W₇.widen (Y:=fun b=>b=F.env.locals∨b=I) fun _ q => .inl q) (gR S₇ B₇)) (gR S₇ B₇)
  refine uF (h₀:=s.heap) S₇.c hfr' hf hi (R₇.older (cZ fun b o e=>W6.dom S₆.c (yD S₆ B₆) e)) (cZ fun b o e=>W.dom S₇.c (yD S₇ B₇) e) fun s₈ C₈ ⟨X,hX,W₈⟩ R₈=>?_
  have hXL:¬X F.env.locals:=fun q=>by
   (refine aF (S.loc) fun m zz85 _=>?_;refine cM zz85 fun o es ep l1 _=>?_;clear zz85)
   rw[(hX _ q).1] at l1;cases l1
  exact h π₇ s₈ L hf (S₇.fwdX C₈ W₈ hXL) ((W.absorb W₈ hX (gR S₇ B₇)).dropI (W₁.back C₁ I hI)) R₈
theorem yh {names:List Str} {C:Addr} (D:DefAt G a fd) (hr:A.depth < recursionLimit) (hb:fd.body = .stmts body)
  (hbind:∀vs:List Value,vs.length=names.length→bindArgs fd ⟨vs,[]⟩=pure (names.zip vs)) (hn:as.length=names.length) (hnd:names.Nodup)
  (hcell:∀x∈fd.scope.names,x.2 ≠ .cell) (hloc:∀x∈names,fd.scope.names.lookup x=some .local) (hcl:fd.closure=[])
  (h:∀L,∃lv',Dl G ⟨A.deeper (callEnv fd L a),callEnv fd L a,[]⟩ (names.zip as) σ body i lv' σ') (hi:σ'[i]? = some (.exc C j false))
  (hco:fd.scope.isCoroutine=false:=by rfl) (hgen:fd.scope.isGenerator=false:=by rfl) (hk:fd.scope.kind = .function:=by rfl):yk G A σ (.base a) as i σ':=fun π s fv vs S hf hv Q E hq=>by
 subst hf
 (refine aF (D.at_) fun o ho hd=>?_)
 have hlen:vs.length=names.length:=hv.length.symm.trans hn
 refine dk (fe hr (S.keepg _ _ ho) hd (let ⟨mc,p,q⟩:=D.lim;⟨mc,p.keeps S.keepg,q⟩) (D.code.keeps S.keepg) hb (hbind vs hlen) hcell (fun x hx=>hloc _ ?_) (fun h₀ hns hk₀=>?_) hco hgen hk)
 ·obtain⟨y,v⟩:=x
  exact(List.of_mem_zip hx).1
 have hL:s.heap.get? s.heap.objs.size=none:=aC _
 (refine bD (S.keeps (X:=cG) (s':={ s with heap:=h₀,toks:=s.toks+(names.zip vs).length }) hk₀ rfl rfl) fun C₁ W₁=>?_)
 (refine aF (C₁.frs) fun fs f1 f2=>?_)
 have hgL:G.g.get? s.heap.objs.size=none:=by
  cases q:G.g.get? s.heap.objs.size with
  | none=>rfl
  | some o=>have:=S.keepg _ _ q;rw[hL] at this;cases this
 have htL:¬Tr π σ s.heap.objs.size:=fun t=>by
  (refine b8 (S.rep.there t) fun ob hob=>?_)
  rw[hL] at hob;cases hob
 have hfr:(A.deeper (callEnv fd s.heap.objs.size a)).frames=some (callEnv fd s.heap.objs.size a::fs):=by show (A.frames.map _)=_;rw[f1];rfl
 have S0:St G ⟨A.deeper (callEnv fd s.heap.objs.size a),callEnv fd s.heap.objs.size a,[]⟩ (names.zip as) σ π { s with heap:=h₀,toks:=s.toks+(names.zip vs).length }:=by
  refine⟨⟨C₁.keepg,C₁.rep,(callEnv fd s.heap.objs.size a)::fs,hfr,fun g hg=>?_⟩,⟨_,hns,?_⟩,hgL,htL,?_,fun p hp=>by cases hp⟩
  ·rcases List.mem_cons.mp hg with rfl | hg
   ·(refine cQ hns fun o' es ep g1 g2 _=>?_;clear hns)
    exact⟨by show fd.scope.kind≠_;rw[hk];decide,_,o',rfl,g1,(fun vs q=>by rw[g2] at q;cases q),hgL,htL⟩
   ·exact f2 g hg
  ·have:=ku (ns:=names) hv
   have e:(fun x=>(names.zip vs).reverse.lookup x)=fun x=>(names.zip vs).lookup x:=funext fun x=>dm hnd hlen.symm
   rw[e];exact this
  ·show fd.closure=_;rw[hcl];rfl
 (refine b8 (h s.heap.objs.size) fun lv' h=>?_)
 refine h π _ S0 _ _ fun π' s' L hL' S' W' R'=>?_
 cases hL'
 unfold leaving
 refine ae (xo (h₀:=h₀) S'.c rfl hi R' fun s'' S'' ⟨X,hX,W''⟩ R''=>?_)
 have WW:Fwd (A.deeper (callEnv fd s.heap.objs.size a)) (·=s.heap.objs.size) σ π { s with heap:=h₀,toks:=s.toks+(names.zip vs).length } σ' π' s'':=W'.absorb W'' hX fun b hb=>by rw[hb];exact S'.trL
 (refine bD (gf (A:=A) (s₁:={ s with heap:=h₀,toks:=s.toks+(names.zip vs).length }) (X:=(·=s.heap.objs.size)) rfl S hk₀ hL rfl rfl S'' WW (fun b hb=>by rw[hb];exact hL)) fun B1 B2=>?_)
 exact hq π' s'' B1 B2 (R''.older (cZ fun b o e=>⟨o,hk₀ b o e⟩))
def vw (G:Gd) (C:Cx) (target:Expr) (body:List Stmt) (ok:List AO→Prop) (xs:List AV) (k:Nat) (lv:List (Str×AV)) (σ:List AO) (X:Nat→List AO→Prop):Prop :=
 ∃i lv' σ',(∀F,C.Ok F→LpX G F target body ok xs k lv σ i lv' σ')∧Ak σ' i∧X i σ'
theorem wi {K:AV→List AO→Prop} (D:DefAt G a fd) (K0:ScopeOk fd names ls gs) (hb:fd.body = .stmts (.For target iter body [] pos::rest'))
  (hbind:∀vs:List Value,vs.length=names.length→bindArgs fd ⟨vs,[]⟩=pure (names.zip vs)) (hn:as.length=names.length) (hrest:ls=names++rest) (hlv:(names.zip as++rest.map fun x=>(x,.unk))=lv)
  (h:cW G (iN fd ls gs k) lv σ iter fun x σ₁=>∃xs ok,(∀A,A.handled=none→vA G A σ₁ x xs ok)∧vw G (iN fd ls gs k) target body ok xs 0 lv σ₁ X)
  (hs:∀env x,foldedSetIterable iter env x=pure x:=by intro _ _;rfl):CtP G (k+1) σ (.base a) as K X:=by
 have ok:∀ (A:Around),Rm A (k+1)→∀L,(iN fd ls gs k).Ok ⟨A.deeper (callEnv fd L a),callEnv fd L a,[]⟩:=fun A R L=>by
  refine⟨⟨K0.kind,fun x hx=>?_,fun x hx=>by simp at hx,fun x hx=>?_,K0.gl,K0.bl⟩,⟨⟨A,rfl⟩,⟨_,rfl⟩⟩,rfl,fun n hn=>?_,fun c h=>by cases h;exact⟨rfl,rfl⟩,fun h=>by cases h⟩
  ·have:=List.all_eq_true.mp K0.loc x (by simpa using hx)
   show fd.scope.names.lookup x=_;simpa using this
  ·have:=List.all_eq_true.mp K0.glob x (by simpa using hx)
   show fd.scope.names.lookup x=_;simpa using this
  ·cases hn;exact R.deeper
 have c1:∀x∈fd.scope.names,x.2 ≠ .cell:=fun x hx=>by have:=List.all_eq_true.mp K0.nocell x hx;simpa using this
 have c2:∀x∈names,fd.scope.names.lookup x=some .local:=fun x hx=>by have:=List.all_eq_true.mp K0.par x hx;simpa using this
 (refine lY h fun x σ₁ ev xs okk it i lv' σ' lp hi k'=>?_;clear h)
 (refine bC (id hi) fun D' j hx=>?_)
 refine .inr ⟨_,_,fun A R=>yh D R.room hb hbind hn K0.nodup c1 c2 K0.cl (fun L=>⟨lv',fun π s S Q E z=>xK (rest:=rest') (pos:=pos) (ok A R L).fm hx (ev _ (ok A R L)) (it _ ((ok A R L).nh rfl)) (lp _ (ok A R L)) hs π s (S.wk (hlv ▸ Wk.pad _ rest)) Q E z⟩) hx K0.co K0.gen K0.kind,hi,k'⟩
end
section
theorem t6 {R:Result→Shared→Prop} (hreg:s.asleep)
  (h:aS (model prog w) callerA t (fun fin s'=>∃f,fin = .done f∧(R (.ok f) s'∧leftWithCleanup s'.gens=false)) (fun e s'=>R (.error e) s'∧leftWithCleanup s'.gens=false) s) :
  ∃n r s' s'',runN (denote table) prog w n s ⟨t,.builtin "claim.caller" {},default,[]⟩ = .halted (outcomeOf r) s' ∧
   schedN (denote table) prog w n (.single s ⟨t,.builtin "claim.caller" {},default,[]⟩) = .halted (outcomeOf r) s'∧s'.forget=s''.forget∧R r s'':=by
 have hw:Sem.wp (model prog w) ⟨.builtin "claim.caller" {},none,none,[],none⟩ t (Sem.finPost (model prog w) ⟨.builtin "claim.caller" {},none,none,[],none⟩ fun r s'=>R r s'∧leftWithCleanup s'.gens=false) (fun e _ s'=>R (.error e) s'∧leftWithCleanup s'.gens=false) default s:=by
  refine Sem.wp_mono _ _ t (fun fin p' s' h'=>?_) (fun _ _ _ h'=>h') _ s (h _ default caller_in ⟨by decide +kernel,fun x hx=>by cases hx⟩)
  (refine aF h' fun f zz1 hf=>?_;clear h';subst zz1)
  exact hf
 (refine jJ (wp_halts_full (M:=model prog w) hreg hw) fun n r s₁ s₂ hs hn hfo hR=>?_)
 exact⟨n,r,s₂,s₁,hn,hs,hfo,hR⟩
def jW (l:OpenLaw) (w:World) (s₀ s₁:Shared) (mg:Str→Option Value) (args:List WData) (vs:List Value):Prop :=
 ∃f,mg l.name=some f ∧
  aS (model l.prog w) callerA (PySem.call f vs) (fun v s'=>GoodWG l.row.toRowW.claim (classAt s₀.heap) (ExcName.means s₀.heap) args s₁ (.ok (.ret v)) s')
   (fun e s'=>GoodWG l.row.toRowW.claim (classAt s₀.heap) (ExcName.means s₀.heap) args s₁ (.error e) s') s₁
def gQ {a b:Prop} (_:a∧b→True):Prop:=b
def na {a b:Prop} (_:(a→b)→True):Prop:=b
def xw {α:Sort _} {P:α→Prop} (_:(∀x,P x)→True) (x:α):Prop:=P x
def rv (l:OpenLaw) (w:World) (s':Shared):Prop :=
 na (fun _:xw (fun _:gQ (fun _:xw (fun _:gQ (fun _:gQ (fun _:gQ (fun _:gQ (fun _:l.row.Holds=>trivial)=>trivial)=>trivial)=>trivial)=>trivial) w=>trivial)=>trivial) s'=>trivial)
def A3 {α:Sort _} {P:α→Prop} (_:(∃x,P x)→True) (x:α):Prop:=P x
def sZ (l:OpenLaw) (w:World) (s' s₀ s:Shared):Prop :=
 gQ (fun _:gQ (fun _:gQ (fun _:gQ (fun _:A3 (fun _:gQ (fun _:gQ (fun _:A3 (fun _:rv l w s'=>trivial) s₀=>trivial)=>trivial)=>trivial) s=>trivial)=>trivial)=>trivial)=>trivial)
def vG (l:OpenLaw) (w:World) (s' s₀ s:Shared) (args:List WData) (ord:List DictEntry→List DictEntry):Prop :=
 na (fun _:xw (fun _:na (fun _:na (fun _:xw (fun _:sZ l w s' s₀ s=>trivial) args=>trivial)=>trivial)=>trivial) ord=>trivial)
theorem xm {Yf:Shared→α} {Ya:World→α} {YP:World→Heap→Prop}
  (left:LeftO l.prog q loose Xt Yf Ya N) (hY:∀w s,Yf s=Ya w→YP w s.heap) (hYk:∀w h h',YP w h→(∀b o,h.get? b=some o→h'.get? b=some o)→YP w h')
  (hX:∀s,Xt s=true→XP (s.heap.nsMap mainGlobals) s.heap) (hXk:∀mg h h',XP mg h→(∀b o,h.get? b=some o→h'.get? b=some o)→XP mg h')
  (hdef:defOf q l.name=some (d,kwd)) (hp:l.prog.theDef l.name=some (d.params,d.body,d.scope)) (hk:kwWritten? d.params.kwonlyargs d.params.kw_defaults=some kwd)
  (k1:l.row.wellSaid=true) (ok:(chainsOk q && opensWell l.prog && (frees l.row.toRowW && l.row.within.isEmpty))=true) (hb:l.prog.bare) (hw:l.row.toRowW.promised)
  (call:∀ (w:World) (s₀ s₁:Shared) (mg mb:Str→Option Value),Ground q loose [] XP w s₀ mg mb s₁.heap→YP w s₁.heap→∀ (args:List WData) (vs:List Value) (as:List Addr),
   l.row.toRowW.claim.pre args=true→WData.layableAll args=true→Laid [] w s₀ s₁ args vs as→sysModules < s₀.heap.objs.size→jW l w s₀ s₁ mg args vs):l.row.Holds:=by
 (refine bD (Bool.and_eq_true_iff.mp ok) fun ok1 k5=>?_)
 (refine bD (Bool.and_eq_true_iff.mp ok1) fun hch o1=>?_)
 (refine bD (Bool.and_eq_true_iff.mp k5) fun k5 k6=>?_)
 (refine gq (frees_parts k5) fun hsame hu ha hap hm=>?_)
 have hi:=ident_freeW hu ha hap
 have hwi:l.row.toRowW.claim.within=[]:=List.isEmpty_iff.mp k6
 refine⟨k1,hw,⟨hb,o1,rfl⟩,hw.witness,fun w=>⟨(left.behind hX hch w).1,fun s' hs'=>?_⟩⟩
 show rv l w s'
 (refine o8 ((left.behind hX hch w).2 s' hs') fun s₀ hf hg0 s hT hz hgens hg G y=>?_)
 refine⟨s₀,hf,hg0,s,hT,fun n hn=>?_,fun x hx=>(by cases hx),fun x hx=>(by cases hx),?_⟩
 ·obtain rfl:n=l.name:=by
   have:n∈(if l.row.pinned then [l.row.name] else []):=hn
   split at this<;>simp_all [OpenLaw.row]
  exact pinned_of_view hg G hdef hp hk
 have hgens:s.gens=#[]:=Array.eq_empty_of_size_eq_zero (beq_iff_eq.mp hgens)
 intro args hpre hlay ord hord
 show vG l w s' s₀ s args ord
 obtain⟨⟨vs,s₁⟩,hlaid⟩:=Option.isSome_iff_exists.mp (layAllW_isSome (P:=w.params) (ord:=ord) G.has args l.row.toRowW.args s (pre_splitW hpre).1)
 have keeps:=layAllW_keeps _ _ _ hlaid
 have hal:=layAllW_rest _ _ _ hlaid
 (refine fX (reads_layAllW hord _ _ _ hlaid hlay s₁.heap (fun _ _ e=>e)) fun as hrd hin hold=>?_)
 have L:Laid [] w s s₁ args vs as:=⟨⟨ord,hord,hlaid⟩,hrd,hin,hold,keeps,hal.1.trans hgens,hal.2.2.1⟩
 have G₁:=G.keeps hXk keeps
 (refine aF (call w s s₁ _ _ G₁ (hYk _ _ _ (hY w s y) keeps) args vs as hpre hlay L G.low) fun f hfn h=>?_)
 let c:=l.row.toRowW.claim
 let kept:Heap→Prop:=fun h'=>l.row.writes=true→namesKept l.prog l.row.keeps s.heap h'∧∀x∈c.records,∀a,classAt s.heap x.1=some a→recordClass h' a x.1 (x.2.map (·.1))=true
 have good:∀ (r:Result) (s':Shared),GoodWG c (classAt s.heap) (ExcName.means s.heap) args s₁ r s'→(c.Ends s args vs s₁ r s'∧s'.os=s.os∧kept s'.heap)∧leftWithCleanup s'.gens=false:=fun r s' g=>by
  have z:=g.laid (c:=c) hsame hwi hi L
  exact⟨⟨z.1,z.2.1,fun _=>⟨namesKept_of hT hg _ keeps g.2.1.old,fun x hx=>(by cases hx)⟩⟩,leftWithCleanup_false_of_bare z.2.2⟩
 obtain⟨k,r,s',s'',hrun,hsched,hfo,hcase,hos,hkp⟩:=t6 (prog:=l.prog) (w:=w) (t:=do match←nsGet mainNs l.name with | some f=>do ret (← PySem.call f vs) | none=>unsupported "claim.caller:no-such-global") (s:=s₁)
  (R:=fun r s'=>c.Ends s args vs s₁ r s'∧s'.os=s.os∧kept s'.heap) (Shared.asleep_of_life hal.2.2.2 hz)
  (ae (bn (wpAny_nsGet G₁.T.g (by
   rw[hfn]
   exact ae (bb h (fun v s' g=>ak ⟨_,rfl,good _ _ g⟩) fun e s' g=>good _ _ g)))))
 (refine gq (Shared.forget_eq hfo) fun eh _ _ eo _=>?_)
 have hcase:=hcase.congr eh
 rw[← eh] at hkp
 rw[← eo] at hos
 have hlife:s'.heap.life=s.heap.life:=(runN_life _ _ _ hrun).trans hal.2.2.2
 refine⟨vs,s₁,hlaid,k,_,s',hsched,?_,(fun _ i x hx=>by rw[hgens] at hx;simp at hx),hkp,by rw[hlife],Shared.rest_eq hos⟩
 rcases hcase with⟨v,rfl,d1,d2,d3,d4,d5⟩ | ⟨e,ob,cls,rfl,d1,d2,d3,d4,d5⟩
 ·exact .inl ⟨v,rfl,d1,d2,d3,fun b o y _=>d4 b o y,d5⟩
 ·exact .inr ⟨e,ob,cls,rfl,d1,d2,d3,d4,fun b o y _=>d5 b o y⟩
end
section
noncomputable def dG (fd:FuncData):List Stmt:=match fd.body with
 | .stmts b=>b
 | _=>[]
noncomputable def bk (st:Stmt):Expr×List Stmt:=match st with
 | .For t _ b _ _=>(t,b)
 | _=>(.Name default ⟨0,0,0,0⟩,[])
theorem ScopeOk.of (h:ScopeOk fd names ls gs) (e:fd'.scope=fd.scope) (c:fd'.closure=[]) (g:fd'.globals=mainGlobals) (b:fd'.builtins=builtinsNs):ScopeOk fd' names ls gs :=
 ⟨e ▸ h.kind,e ▸ h.co,e ▸ h.gen,e ▸ h.loc,e ▸ h.glob,e ▸ h.nocell,e ▸ h.par,h.nodup,c,g,b⟩
noncomputable abbrev eZ:List String:=["base", "size", "memory", "registers", "pc", "output", "input", "taken", "steps", "status", "is_done", "known"]
noncomputable abbrev gZ:List String:=["entry", "base", "octets", "bss_size", "symbols", "pieces", "lines", "names"]
noncomputable abbrev pW:List Str:=["Machine.__init__", "Machine.place_of", "Machine.place_for", "Machine.load", "Machine.store", "Machine.octets_at", "Machine.put", "Machine.instruction_at", "Machine.jump", "Machine.step", "Machine.move", "Machine.lead", "Machine.call_out", "Machine.run"]
noncomputable abbrev kM:List String:=["__init__", "place_of", "place_for", "load", "store", "octets_at", "put", "instruction_at", "jump", "step", "move", "lead", "call_out", "run"]
structure Ad where
 trap:Addr
 trapN:Addr
 trapI:Addr
 mach:Addr
 machN:Addr
 m:Nat→Addr
 image:Addr
 imageN:Addr
 imageI:Addr
structure FnAt (G:Gd) (a:Addr):Prop where
 fn:∃o,G.g.get? a=some o∧o.cls = .type "function"
structure Wd (G:Gd) (D:Ad) (gt bt:List (Str×AV)):Prop where
 B:Bs G gt bt
 sys:jR G
 trapC:ECls G.g D.trap D.trapN
 trapD:∃pm cd,DefAt G D.trapI (m9 pm cd)
 trapF:FnAt G D.trapI
 trapIn:G.g.nsMap D.trapN "__init__" = some (.ref D.trapI)
 trapNo:∀x∈["__setattr__", "__getattribute__", "__getattr__", "word", "at"],G.g.nsMap D.trapN (Str.ofString x)=none
 machC:PCls G.g D.mach D.machN [.type "object"]
 machNo:∀x∈["__setattr__", "__getattribute__", "__getattr__"],G.g.nsMap D.machN (Str.ofString x)=none
 machFs:∀x∈eZ,G.g.nsMap D.machN (Str.ofString x)=none
 machM:∀ (i:Nat) x,kM[i]? = some x→G.g.nsMap D.machN (Str.ofString x)=some (.ref (D.m i))∧FnAt G (D.m i)
 machD:∀ (i:Nat) q,pW[i]? = some q→∃pm cd,DefAt G (D.m i) (mz i q pm cd)
 imageC:PCls G.g D.image D.imageN [.type "object"]
 imageNo:∀x∈["__setattr__", "__getattribute__", "__getattr__"],G.g.nsMap D.imageN (Str.ofString x)=none
 imageFs:∀x∈gZ,G.g.nsMap D.imageN (Str.ofString x)=none
 imageIn:G.g.nsMap D.imageN "__init__" = some (.ref D.imageI)
 imageF:FnAt G D.imageI
 imageD:∃pm cd,DefAt G D.imageI (nz pm cd)
variable {G:Gd} {D:Ad} {gt bt:List (Str×AV)} {σ:List AO}
theorem AF:∀x∈eZ,typeLookup (.type "object") (Str.ofString x)=pure none:=by
 intro x hx
 simp only[eZ,lxm,lxn,or_false] at hx
 rcases hx with rfl | rfl | rfl | rfl | rfl | rfl | rfl | rfl | rfl | rfl | rfl | rfl<;>(rw[typeLookup_type,builtinLookup_eq_fast];kernel_rfl)
theorem AG:∀x∈gZ,typeLookup (.type "object") (Str.ofString x)=pure none:=by
 intro x hx
 simp only[gZ,lxm,lxn,or_false] at hx
 rcases hx with rfl | rfl | rfl | rfl | rfl | rfl | rfl | rfl<;>(rw[typeLookup_type,builtinLookup_eq_fast];kernel_rfl)
theorem xf:∀x∈kM.drop 1,typeLookup (.type "object") (Str.ofString x)=pure none:=by
 intro x hx
 simp only[kM,List.drop_succ_cons,List.drop_zero,lxm,lxn,or_false] at hx
 rcases hx with rfl | rfl | rfl | rfl | rfl | rfl | rfl | rfl | rfl | rfl | rfl | rfl | rfl<;>(rw[typeLookup_type,builtinLookup_eq_fast];kernel_rfl)
theorem yl (W:Wd G D gt bt) (hi:σ[i]? = some (.inst D.mach fs)) (hv:fs.lookup (Str.ofString x)=some a) (hb:d8 a=true) (hx:x∈eZ) (A:Around):wJ G A σ (fun o=>getAttr o (Str.ofString x) true) (.dyn i) a σ :=
 ru W.machC hi hv hb (W.machNo "__getattribute__" (by simp)) (W.machFs x hx) (AF x hx)
theorem wy (W:Wd G D gt bt) (hi:σ[i]? = some (.inst D.image fs)) (hv:fs.lookup (Str.ofString x)=some a) (hb:d8 a=true) (hx:x∈gZ) (A:Around):wJ G A σ (fun o=>getAttr o (Str.ofString x) true) (.dyn i) a σ :=
 ru W.imageC hi hv hb (W.imageNo "__getattribute__" (by simp)) (W.imageFs x hx) (AG x hx)
theorem xB (W:Wd G D gt bt) (hi:σ[i]? = some (.inst D.mach fs)) (hn:fs.length+1≤16777216) (hx:x∈eZ) (A:Around):tC G A σ (fun o _ v=>setAttr o (Str.ofString x) v) (.dyn i) .none a (σ.set i (.inst D.mach (put (Str.ofString x) a fs))) :=
 rG W.machC hi rfl rfl (W.machNo "__setattr__" (by simp)) (W.machFs x hx) (AF x hx) (by rw[sizeLine_eq];exact hn)
theorem vo (W:Wd G D gt bt) (hi:σ[i]? = some (.inst D.image fs)) (hn:fs.length+1≤16777216) (hx:x∈gZ) (A:Around):tC G A σ (fun o _ v=>setAttr o (Str.ofString x) v) (.dyn i) .none a (σ.set i (.inst D.image (put (Str.ofString x) a fs))) :=
 rG W.imageC hi rfl rfl (W.imageNo "__setattr__" (by simp)) (W.imageFs x hx) (AG x hx) (by rw[sizeLine_eq];exact hn)
theorem xG (k:Nat) (W:Wd G D gt bt) (hi:σ[i]? = some (.inst D.mach fs)) (hsh:fs.lookup (Str.ofString x)=none) (hx:kM[k]? = some x) (hk:1≤k) (A:Around):Gm G A σ (.dyn i) (Str.ofString x) (.base (D.m k)) [.dyn i] :=
 xI (y:=none) W.machC hi hsh (W.machNo "__getattribute__" (by simp)) (W.machNo "__getattr__" (by simp)) (W.machM k x hx).1 (W.machM k x hx).2.fn (xf x (by
  have:(kM.drop 1)[k - 1]? = some x:=by rw[List.getElem?_drop,show 1+(k - 1)=k by lia];exact hx
  exact List.mem_of_getElem? this))
def dH (D:Ad) (σ':List AO) (i:Nat) (w:Str) (a:Int):Prop:=∃j,σ'[i]? = some (.exc D.trap j false)∧σ'[j]? = some (.ns [("word",.str w),("at",.int a)])
def Keep (σ σ':List AO):Prop:=∀ (i:Nat) (o:AO),σ[i]? = some o→σ'[i]? = some o
def KeptBut (is:List Nat) (σ σ':List AO):Prop:=∀ (i:Nat) (o:AO),i ∉ is→σ[i]? = some o→σ'[i]? = some o
theorem Keep.refl:Keep σ σ:=fun _ _ h=>h
theorem Keep.app:Keep σ (σ++l):=fun _ _ h=>ad h
variable {C:Cx}
theorem cn {K:AV→List AO→Prop} (W:Wd G D gt bt) (hi:σ[i]? = some (.inst D.mach fs)) (hv:fs.lookup (Str.ofString x)=some a) (hb:d8 a=true) (hx:x∈eZ) (k:K a σ):qA G C σ (fun o=>getAttr o (Str.ofString x) true) (.dyn i) K:=o1 (yl W hi hv hb hx) k
theorem bB {K:AV→List AO→Prop} (W:Wd G D gt bt) (hi:σ[i]? = some (.inst D.image fs)) (hv:fs.lookup (Str.ofString x)=some a) (hb:d8 a=true) (hx:x∈gZ) (k:K a σ):qA G C σ (fun o=>getAttr o (Str.ofString x) true) (.dyn i) K:=o1 (wy W hi hv hb hx) k
theorem lH {K:List AO→Prop} (W:Wd G D gt bt) (hi:σ[i]? = some (.inst D.mach fs)) (hn:fs.length+1≤16777216) (hx:x∈eZ) (k:K (σ.set i (.inst D.mach (put (Str.ofString x) a fs)))):jT G C σ (fun o _ v=>setAttr o (Str.ofString x) v) (.dyn i) .none a K:=od (xB W hi hn hx) k
theorem pK {K:List AO→Prop} (W:Wd G D gt bt) (hi:σ[i]? = some (.inst D.image fs)) (hn:fs.length+1≤16777216) (hx:x∈gZ) (k:K (σ.set i (.inst D.image (put (Str.ofString x) a fs)))):jT G C σ (fun o _ v=>setAttr o (Str.ofString x) v) (.dyn i) .none a K:=od (vo W hi hn hx) k
theorem eu (k:Nat) {K:AV→List AV→Prop} (W:Wd G D gt bt) (hi:σ[i]? = some (.inst D.mach fs)) (hsh:fs.lookup (Str.ofString x)=none) (hx:kM[k]? = some x) (hk:1≤k) (h:K (.base (D.m k)) [.dyn i]):pC G C σ (.dyn i) (Str.ofString x) K:=og (xG k W hi hsh hx hk) h
theorem dh:(σ++[AO.exc D.trap (σ.length+1) true,AO.ns [("word",.str w),("at",.int a)]])[σ.length]? = some (.exc D.trap (σ.length+1) true) ∧
  dH D ((σ++[AO.exc D.trap (σ.length+1) true,AO.ns [("word",.str w),("at",.int a)]]).set σ.length (.exc D.trap (σ.length+1) false)) σ.length w a ∧
  Keep σ ((σ++[AO.exc D.trap (σ.length+1) true,AO.ns [("word",.str w),("at",.int a)]]).set σ.length (.exc D.trap (σ.length+1) false)):=by
 refine⟨by simp,⟨σ.length+1,by simp,?_⟩,fun i o h=>?_⟩
 ·rw[List.getElem?_set_ne (Nat.ne_of_lt (Nat.le_refl _))];simp
 ·have:=(List.getElem?_eq_some_iff.mp h).1
  rw[List.getElem?_set_ne (Nat.ne_of_gt this)]
  exact ad h
noncomputable def BS (ms:List String) (fs:List (Str×AV)) (x:String):Option AV:=match ms.contains x with
 | true=>(match fs.lookup (Str.ofString x) with
  | some a=>(match d8 a with
   | true=>some a
   | false=>none)
  | none=>none)
 | false=>none
theorem ve (h:BS ms fs x=some a):x∈ms∧fs.lookup (Str.ofString x)=some a∧d8 a=true:=by
 unfold BS at h
 cases q:ms.contains x with
 | false=>rw[q] at h;cases h
 | true =>
  rw[q] at h
  cases q2:fs.lookup (Str.ofString x) with
  | none=>rw[q2] at h;cases h
  | some b =>
   rw[q2] at h
   cases q3:d8 b with
   | false=>simp only[q3] at h;cases h
   | true=>simp only[q3] at h;cases h;exact⟨List.contains_iff_mem.mp q,rfl,q3⟩
noncomputable def Ch (ms:List String) (fs:List (Str×AV)) (x:String):Option Nat:=match ms.contains x && Nat.ble (fs.length+1) 16777216 with
 | true=>oX fs (Str.ofString x) 0
 | false=>none
theorem uc (h:Ch ms fs x=some j):x∈ms∧fs.length+1≤16777216∧∀a,put (Str.ofString x) a fs=fs.set j (Str.ofString x,a):=by
 unfold Ch at h
 cases q:ms.contains x && Nat.ble (fs.length+1) 16777216 with
 | false=>rw[q] at h;cases h
 | true =>
  rw[q] at h
  rw[Bool.and_eq_true] at q
  exact⟨List.contains_iff_mem.mp q.1,Nat.le_of_ble_eq_true q.2,fun a=>(np h).2⟩
theorem aV {K:AV→List AO→Prop} (W:Wd G D gt bt) (hi:σ[i]? = some (.inst D.mach fs)) (h:BS eZ fs x=some a) (k:K a σ):qA G C σ (fun o=>getAttr o (Str.ofString x) true) (.dyn i) K :=
 let ⟨h1,h2,h3⟩:=ve h;cn W hi h2 h3 h1 k
theorem cT {K:List AO→Prop} (W:Wd G D gt bt) (hi:σ[i]? = some (.inst D.mach fs)) (h:Ch eZ fs x=some j) (k:K (σ.set i (.inst D.mach (fs.set j (Str.ofString x,a))))):jT G C σ (fun o _ v=>setAttr o (Str.ofString x) v) (.dyn i) .none a K :=
 let ⟨h1,h2,h3⟩:=uc h;lH W hi h2 h1 (by rw[h3];exact k)
noncomputable def BJ (ms:List String) (fs:List (Str×AV)) (x:String):Bool:=ms.contains x && Nat.ble (fs.length+1) 16777216 && (oX fs (Str.ofString x) 0).isNone
theorem uy (h:BJ ms fs x=true):x∈ms∧fs.length+1≤16777216∧∀a,put (Str.ofString x) a fs=fs++[(Str.ofString x,a)]:=by
 unfold BJ at h
 rw[Bool.and_eq_true,Bool.and_eq_true] at h
 exact⟨List.contains_iff_mem.mp h.1.1,Nat.le_of_ble_eq_true h.1.2,fun a=>rd (Option.isNone_iff_eq_none.mp h.2)⟩
theorem cq {K:List AO→Prop} (W:Wd G D gt bt) (hi:σ[i]? = some (.inst D.mach fs)) (h:BJ eZ fs x=true) (k:K (σ.set i (.inst D.mach (fs++[(Str.ofString x,a)])))):jT G C σ (fun o _ v=>setAttr o (Str.ofString x) v) (.dyn i) .none a K :=
 let ⟨h1,h2,h3⟩:=uy h;lH W hi h2 h1 (by rw[h3];exact k)
theorem cU {K:List AO→Prop} (W:Wd G D gt bt) (hi:σ[i]? = some (.inst D.image fs)) (h:BJ gZ fs x=true) (k:K (σ.set i (.inst D.image (fs++[(Str.ofString x,a)])))):jT G C σ (fun o _ v=>setAttr o (Str.ofString x) v) (.dyn i) .none a K :=
 let ⟨h1,h2,h3⟩:=uy h;pK W hi h2 h1 (by rw[h3];exact k)
end
section
variable {G:Gd} {C:Cx} {D:Ad} {gt bt:List (Str×AV)} {lv:List (Str×AV)} {σ σ':List AO} {K:AV→List AO→Prop} {KL:List AV→List AO→Prop} {KB:Bool→List AO→Prop} {KS:AFl→List (Str×AV)→List AO→Prop} {X:Nat→List AO→Prop} {XS:Nat→List (Str×AV)→List AO→Prop} {P:Prop}
 {x y:String} {p p1 p2 p3:Pos} {a b r:AV} {t e l m:Expr} {es:List Expr} {B O rest:List Stmt} {i c:Nat} {n:Int} {fs:List (Str×AV)} {s:Str} {op:CmpOp}
noncomputable def km (e:Expr):Bool:=Nat.ble 8 e.ctorIdx && Nat.ble e.ctorIdx 10
noncomputable def t7 (e:Expr):Bool:=Nat.ble 20 e.ctorIdx && !Nat.beq e.ctorIdx 22 && Nat.ble e.ctorIdx 23
theorem ux {t:Option Expr} {k:Nat} {env:Env} (h:km e=false):swapsWith e t k env=pure false:=by
 cases e<;>first | rfl | cases h
theorem my {env:Env} (h:t7 t=true):swappedStores [t] e env=pure none∧(assignEach [t] env).map (·.2)=[assign t env]:=by
 cases t<;>first | exact⟨rfl,rfl⟩ | cases h
theorem gT {env:Env} (h:iu es=true):(backTo p (starEach es env)).any (·.1)=false:=by
 induction es with
 | nil=>rfl
 | cons e es ih =>
  have h:=Bool.and_eq_true_iff.mp h
  have:=ih h.2
  cases e<;>first | exact this | exact absurd h.1 Bool.false_ne_true
theorem b5 (o:(t7 t && !km e)=true) (h:lC G C lv σ e (CJ G C lv t (jN G C rest KS XS)) (Ae lv XS)):eQ G C lv σ (.Assign [t] e p::rest) KS XS :=
 have o:=Bool.and_eq_true_iff.mp o
 aW (fF h (fun _=>ux (by simpa using o.2)) (fun _=>(my o.1).1) fun _=>(my (e:=e) o.1).2)
theorem aA (o:(t7 t && !km e)=true) (h:cW G C lv σ e (CJ G C lv t (jN G C rest KS XS))):eQ G C lv σ (.Assign [t] e p::rest) KS XS:=b5 o (dC h)
theorem bY (h:wI G C lv σ e (kI G C lv B O (jN G C rest KS XS) XS)):eQ G C lv σ (.If e B O p::rest) KS XS:=aW (xQ h)
theorem ay (hm:behindInMarks op m=false) (h:cW G C lv σ l (BN G C lv (compareOp op) m (kT G C (kI G C lv B O (jN G C rest KS XS) XS)))):eQ G C lv σ (.If (.Compare l [op] [m] p1) B O p::rest) KS XS:=bY (aY h hm)
theorem fo (h:lC G C lv σ e (CI lv (jN G C rest KS XS)) (Ae lv XS)):eQ G C lv σ (.Return (some e) p::rest) KS XS:=aW (pF h)
theorem bE (h:cW G C lv σ e (CI lv (jN G C rest KS XS))):eQ G C lv σ (.Return (some e) p::rest) KS XS:=fo (dC h)
theorem cY (o:km e=false) (h:lC G C lv σ e (Di lv (jN G C rest KS XS)) (Ae lv XS)):eQ G C lv σ (.Expr e p::rest) KS XS:=aW (th h fun _=>ux o)
theorem aI (h:eQ G C lv σ rest KS XS):eQ G C lv σ [] (jN G C rest KS XS) XS:=bH h
theorem ai (h:pY C.ls lv (Str.ofString x)=some a) (k:gC G C lv σ es (BL KL a)):gC G C lv σ (.Name (Str.ofString x) p::es) KL:=af (aa h k)
theorem az (k:gC G C lv σ es (BL KL (.int n))):gC G C lv σ (.Constant (.int n) c p::es) KL:=af (bf k)
theorem bx (k:gC G C lv σ es (BL KL (.str s))):gC G C lv σ (.Constant (.str s) c p::es) KL:=af (cB k)
theorem bP (o:iu es=true) (W:Bs G gt bt) (h:gU C.gs (Str.ofString x)=true) (hv:gt.lookup (Str.ofString x)=some a) (k:gC G C lv σ es (CK G C K a)):cW G C lv σ (.Call (.Name (Str.ofString x) p1) es [] p) K:=b7 (ax W h hv k) (hp:=fun _=>gT o)
theorem cb (o:iu es=true) (W:Bs G gt bt) (h:gU C.gs (Str.ofString x)=true) (hv:bt.lookup (Str.ofString x)=some a) (k:gC G C lv σ es (CK G C K a)):cW G C lv σ (.Call (.Name (Str.ofString x) p1) es [] p) K:=b7 (eq W h hv k) (hp:=fun _=>gT o)
theorem bF (o:iu es=true) (W:Bs G gt bt) (h:gU C.gs (Str.ofString x)=true) (hv:gt.lookup (Str.ofString x)=some a) (k:gC G C lv σ es (Dh G C K X a)):lC G C lv σ (.Call (.Name (Str.ofString x) p1) es [] p) K X:=iz (ax W h hv k) (hp:=fun _=>gT o)
theorem bd (h:pY C.ls lv (Str.ofString x)=some (.dyn i)) (hi:σ[i]? = some (.sdict G.w fs)) (hk:lk fs s=some a) (k:K a σ):cW G C lv σ (.Subscript (.Name (Str.ofString x) p1) (.Constant (.str s) c p2) p) K:=bg (aa h (cB (jy hi hk (fun _ _=>by with_unfolding_all rfl) k)))
theorem cN (h:pY C.ls lv (Str.ofString x)=some (.dyn i)) (W:Wd G D gt bt) (hi:σ[i]? = some (.inst D.mach fs)) (ha:BS eZ fs y=some a) (k:K a σ):cW G C lv σ (.Attribute (.Name (Str.ofString x) p1) (Str.ofString y) p) K:=aH (aa h (aV W hi ha k))
theorem eL {t:Value→Value→Sem Value} {z:Bool} (h:∀A,fy G A σ t a b (.bool z) σ') (k:KB z σ'):ib G C σ t a b (kT G C KB):=o2 h (aJ k)
theorem i2 {t:Value→Value→Sem Value} (h:∀A,fy G A σ t a (.int n) r σ') (k:K r σ'):cW G C lv σ (.Constant (.int n) c p) (BM G C t K a):=bf (o2 h k)
theorem dE {t:Value→Value→Sem Value} {z:Bool} (h:∀A,fy G A σ t a (.int n) (.bool z) σ') (k:KB z σ'):cW G C lv σ (.Constant (.int n) c p) (BM G C t (kT G C KB) a):=bf (eL h k)
theorem aX {o:Operator} (h:pY C.ls lv (Str.ofString x)=some a) (k:cW G C lv σ e (BM G C (binaryOp o) K a)):cW G C lv σ (.BinOp (.Name (Str.ofString x) p1) o e p) K:=aG (aa h k)
theorem aD {a:Addr} {fd:FuncData} (h:DefAt G a fd) (k:P):nX G C σ (.base a)∧P:=⟨ok fun _=>DefAt.k h,k⟩
theorem aT {t:String} (k:P):nX G C σ (.type t)∧P:=⟨ok fun _=>ju,k⟩
theorem aB {t:String} (k:P):nX G C σ (.builtin t)∧P:=⟨ok fun _=>dr,k⟩
theorem aL {n:Nat} (h:Nat.ble n 100000=true) (k:P):n≤sizeLine∧P:=⟨bZ (Nat.le_of_ble_eq_true h),k⟩
variable {q0 q1 q2 q3 q4 q5 q6 q7 q8 q9 q10 q11 q12 q13:Str×AV}
theorem Aa (h:dX C.ls (q0::fs) (Str.ofString x)=some 0) (k:eQ G C ((Str.ofString x,a)::fs) σ rest KS XS):fH G C (q0::fs) σ (.Name (Str.ofString x) p) a (jN G C rest KS XS .next):=aw h k
theorem ij (h:dX C.ls (q0::q1::fs) (Str.ofString x)=some 1) (k:eQ G C (q0::(Str.ofString x,a)::fs) σ rest KS XS):fH G C (q0::q1::fs) σ (.Name (Str.ofString x) p) a (jN G C rest KS XS .next):=aw h k
theorem eN (h:dX C.ls (q0::q1::q2::fs) (Str.ofString x)=some 2) (k:eQ G C (q0::q1::(Str.ofString x,a)::fs) σ rest KS XS):fH G C (q0::q1::q2::fs) σ (.Name (Str.ofString x) p) a (jN G C rest KS XS .next):=aw h k
theorem fP (h:dX C.ls (q0::q1::q2::q3::fs) (Str.ofString x)=some 3) (k:eQ G C (q0::q1::q2::(Str.ofString x,a)::fs) σ rest KS XS):fH G C (q0::q1::q2::q3::fs) σ (.Name (Str.ofString x) p) a (jN G C rest KS XS .next):=aw h k
theorem cV (h:dX C.ls (q0::q1::q2::q3::q4::fs) (Str.ofString x)=some 4) (k:eQ G C (q0::q1::q2::q3::(Str.ofString x,a)::fs) σ rest KS XS):fH G C (q0::q1::q2::q3::q4::fs) σ (.Name (Str.ofString x) p) a (jN G C rest KS XS .next):=aw h k
theorem fx (h:dX C.ls (q0::q1::q2::q3::q4::q5::fs) (Str.ofString x)=some 5) (k:eQ G C (q0::q1::q2::q3::q4::(Str.ofString x,a)::fs) σ rest KS XS):fH G C (q0::q1::q2::q3::q4::q5::fs) σ (.Name (Str.ofString x) p) a (jN G C rest KS XS .next):=aw h k
theorem wF (h:dX C.ls (q0::q1::q2::q3::q4::q5::q6::fs) (Str.ofString x)=some 6) (k:eQ G C (q0::q1::q2::q3::q4::q5::(Str.ofString x,a)::fs) σ rest KS XS):fH G C (q0::q1::q2::q3::q4::q5::q6::fs) σ (.Name (Str.ofString x) p) a (jN G C rest KS XS .next):=aw h k
theorem qV (h:dX C.ls (q0::q1::q2::q3::q4::q5::q6::q7::fs) (Str.ofString x)=some 7) (k:eQ G C (q0::q1::q2::q3::q4::q5::q6::(Str.ofString x,a)::fs) σ rest KS XS):fH G C (q0::q1::q2::q3::q4::q5::q6::q7::fs) σ (.Name (Str.ofString x) p) a (jN G C rest KS XS .next):=aw h k
theorem wE (h:dX C.ls (q0::q1::q2::q3::q4::q5::q6::q7::q8::fs) (Str.ofString x)=some 8) (k:eQ G C (q0::q1::q2::q3::q4::q5::q6::q7::(Str.ofString x,a)::fs) σ rest KS XS):fH G C (q0::q1::q2::q3::q4::q5::q6::q7::q8::fs) σ (.Name (Str.ofString x) p) a (jN G C rest KS XS .next):=aw h k
theorem z9 (h:dX C.ls (q0::q1::q2::q3::q4::q5::q6::q7::q8::q9::fs) (Str.ofString x)=some 9) (k:eQ G C (q0::q1::q2::q3::q4::q5::q6::q7::q8::(Str.ofString x,a)::fs) σ rest KS XS):fH G C (q0::q1::q2::q3::q4::q5::q6::q7::q8::q9::fs) σ (.Name (Str.ofString x) p) a (jN G C rest KS XS .next):=aw h k
theorem BY (h:dX C.ls (q0::q1::q2::q3::q4::q5::q6::q7::q8::q9::q10::fs) (Str.ofString x)=some 10) (k:eQ G C (q0::q1::q2::q3::q4::q5::q6::q7::q8::q9::(Str.ofString x,a)::fs) σ rest KS XS):fH G C (q0::q1::q2::q3::q4::q5::q6::q7::q8::q9::q10::fs) σ (.Name (Str.ofString x) p) a (jN G C rest KS XS .next):=aw h k
theorem BX (h:dX C.ls (q0::q1::q2::q3::q4::q5::q6::q7::q8::q9::q10::q11::fs) (Str.ofString x)=some 11) (k:eQ G C (q0::q1::q2::q3::q4::q5::q6::q7::q8::q9::q10::(Str.ofString x,a)::fs) σ rest KS XS):fH G C (q0::q1::q2::q3::q4::q5::q6::q7::q8::q9::q10::q11::fs) σ (.Name (Str.ofString x) p) a (jN G C rest KS XS .next):=aw h k
theorem ym (h:dX C.ls (q0::q1::q2::q3::q4::q5::q6::q7::q8::q9::q10::q11::q12::fs) (Str.ofString x)=some 12) (k:eQ G C (q0::q1::q2::q3::q4::q5::q6::q7::q8::q9::q10::q11::(Str.ofString x,a)::fs) σ rest KS XS):fH G C (q0::q1::q2::q3::q4::q5::q6::q7::q8::q9::q10::q11::q12::fs) σ (.Name (Str.ofString x) p) a (jN G C rest KS XS .next):=aw h k
theorem BW (h:dX C.ls (q0::q1::q2::q3::q4::q5::q6::q7::q8::q9::q10::q11::q12::q13::fs) (Str.ofString x)=some 13) (k:eQ G C (q0::q1::q2::q3::q4::q5::q6::q7::q8::q9::q10::q11::q12::(Str.ofString x,a)::fs) σ rest KS XS):fH G C (q0::q1::q2::q3::q4::q5::q6::q7::q8::q9::q10::q11::q12::q13::fs) σ (.Name (Str.ofString x) p) a (jN G C rest KS XS .next):=aw h k
end
section
set_option maxHeartbeats 4000000
variable {G:Gd} {D:Ad} {gt bt:List (Str×AV)} {σ:List AO} {C:Cx} {lv:List (Str×AV)}
noncomputable abbrev tY:List Str:=["self", "word", "at"]
theorem BF:ScopeOk (m9 .none 0) ["self", "word", "at"] tY ["Exception"]:=⟨rfl,rfl,rfl,by decide +kernel,by decide +kernel,by decide +kernel,by decide +kernel,by decide +kernel,rfl,rfl,rfl⟩
theorem rh:typeLookup (.type "Exception") "word" = pure none:=by rw[typeLookup_type,builtinLookup_eq_fast];kernel_rfl
theorem yF:typeLookup (.type "Exception") "at" = pure none:=by rw[typeLookup_type,builtinLookup_eq_fast];kernel_rfl
theorem tZ (W:Wd G D gt bt) (hE:bt.lookup (Str.ofString "Exception")=some (.type "Exception")) (R:Rm A 1) (hw:d8 w=true) (ha:d8 at_=true) (hi:σ[i]? = some (.exc0 D.trap)) :
  Cl G A σ (.base D.trapI) [.dyn i,w,at_] .none (σ.set i (.exc D.trap σ.length true)++[.ns [("word",w),("at",at_)]]):=by
 (refine bC (W.trapD) fun pm cd DD=>?_)
 have B:=W.B
 have P:=W.trapC
 have hns:G.g.nsMap D.trapN "__setattr__" = none:=W.trapNo "__setattr__" (by simp)
 have h1:G.g.nsMap D.trapN "word" = none:=W.trapNo "word" (by simp)
 have h2:G.g.nsMap D.trapN "at" = none:=W.trapNo "at" (by simp)
 have hwu:w ≠ .unk:=by rintro rfl;cases hw
 have hau:at_ ≠ .unk:=by rintro rfl;cases ha
 have hlt:=am hi
 refine yg (f := .next) (names:=["self", "word", "at"]) (ls:=tY) (gs:=["Exception"]) (rest:=[]) (n:=0) DD (BF.of rfl rfl rfl rfl) R rfl (fW fun _ _ _=>rfl) rfl rfl (by(simp only[lxp,lxq,lxr,lxs,lxt,bV,bU];rfl)) (fun F SC FM R'=>?_)
 apply Exists.intro
 apply qG
 apply ry SC
 apply zD
 apply vZ SC B (by exact rfl) hE (by decide)
 apply qE
 (apply lE;apply iZ;assumption;exact rfl;exact rfl;((intro h);cases h);decide;apply lE;refine iZ ‹_› rfl rfl ‹_› ?_;decide;exact rC;(intro _;rfl);(intro _;rfl);(simp only[lxa,bV,bU];rfl);exact dr)
 apply qU P hi
 ((intro _;rfl);(intro _;rfl);rfl;(intro _;rfl);refine jO ?_;apply qG;apply iY;refine iZ ‹_› rfl rfl ‹_› ?_;decide;apply oq;apply iZ;assumption;exact rfl;exact rfl;((intro h);cases h);decide)
 apply yd P hi rfl hns h1 rh
 ((intro _;rfl);(intro _;rfl);(intro _;rfl);refine jO ?_;apply qG;apply iY;refine iZ ‹_› rfl rfl ‹_› ?_;decide;apply oq;apply iZ;assumption;exact rfl;exact rfl;((intro h);cases h);decide)
 apply zN (i:=i) (j:=σ.length) (b:=true) (fs:=[("word",w)]) P (by(apply ad;apply aU;assumption)) (by(apply aj;simp only[lxS,lxA,lxC,lxN,lxY,lxZ,Nat.reduceAdd];simp only[bS,bT,Int.reduceToNat,lxg,lxh])) (by(simp only[put,aN,lxp,lxq,lxr,String.reduceEq,reduceIte];rfl)) (by(apply kF;simp only[lxS,lxA,lxC,lxN,lxY,lxZ,Nat.reduceAdd];simp only[bS,bT,Int.reduceToNat,Int.toNat_zero,Int.toNat_one,cK];rfl)) hns h2 yF (by simp)
 ((intro _;rfl);(intro _;rfl);(intro _;rfl);refine jO ?_;exact vH)
theorem wR (W:Wd G D gt bt) (hE:bt.lookup (Str.ofString "Exception")=some (.type "Exception")) (R:Rm A 2) (hw:d8 w=true) (ha:d8 at_=true) :
  Cl G A σ (.base D.trap) [w,at_] (.dyn σ.length) (σ++[.exc D.trap (σ.length+1) true,.ns [("word",w),("at",at_)]]):=by
 have:=tZ (σ:=σ++[.exc0 D.trap]) (i:=σ.length) W hE (Rm.inNew (n:=1) R) hw ha (by simp)
 refine tK W.trapC W.trapIn W.trapF.fn (bZ (by simp)) ?_
 simpa using this
theorem dQ {K:AV→List AO→Prop} (W:Wd G D gt bt) (hE:bt.lookup (Str.ofString "Exception")=some (.type "Exception")) (hn:C.n=some m) (hm:2≤m)
  (k:K (.dyn σ.length) (σ++[.exc D.trap (σ.length+1) true,.ns [("word",.str w),("at",.int a)]])):kd G C σ (.base D.trap) [.str w,.int a] K:=BH hn (fun A R=>wR W hE (R.less hm) rfl rfl) k
theorem nW {C N:Addr} {sub:List Value}
  (hC:G.g.get? C=some (excClassObj nm q C N bs bm hdct sn sub ab col dd k0 k1 k2 k3 k5 newId)):nZ G A σ (.base C):=fun π s v S hv=>by
 subst hv
 have ho:=S.keepg _ _ hC
 refine⟨.machine,fun M A Q E h=>?_⟩
 unfold keeperOf
 refine wpAny_bind (wpAny_load ho ?_)
 show wpAny _ _ (specialOf (.ref C) "__call__" >>= fun r=>_) _ _ _
 refine wpAny_bind (wpAny_specialOf (T := "type") ⟨_,ho,rfl⟩ tc_lookup ?_)
 exact wpAny_pure h
theorem dc (W:Wd G D gt bt) (A:Around):nZ G A σ (.base D.trap):=by
 (refine cx (W.trapC.obj) fun nm q bs sn sub col dd k0 k1 k2 k3 k5 h=>?_)
 exact nW h
theorem lA (W:Wd G D gt bt) (A:Around):nZ G A σ (.base D.mach):=by
 (refine cu (W.machC.obj) fun nm q bs sn sub col dd k0 k1 k2 k3 k5 nid h _=>?_)
 exact nW h
theorem jQ (W:Wd G D gt bt) (A:Around):nZ G A σ (.base D.image):=by
 (refine cu (W.imageC.obj) fun nm q bs sn sub col dd k0 k1 k2 k3 k5 nid h _=>?_)
 exact nW h
theorem di (k:Nat) (W:Wd G D gt bt) (h:pW[k]? = some q) (A:Around):nZ G A σ (.base (D.m k)):=by
 (refine bC (W.machD k q h) fun pm cd DD=>?_)
 exact DD.k
noncomputable abbrev Cq:List Str:=["self", "address", "size", "place"]
theorem j0 (W:Wd G D gt bt) (hE:bt.lookup (Str.ofString "Exception")=some (.type "Exception")) (hT:gt.lookup (Str.ofString "Trap")=some (.base D.trap))
  (hm:σ[m]? = some (.inst D.mach fs)) (h1:fs.lookup (Str.ofString "base")=some (.int base)) (h2:fs.lookup (Str.ofString "size")=some (.int size)) (h3:fs.lookup (Str.ofString "pc")=some (.int pc)) :
  CtP G 3 σ (.base (D.m 1)) [.dyn m,.int a,.int n] (fun r σ'=>(base≤a∧0≤n∧a - base+n≤size)∧r = .int (a - base)∧σ'=σ) (fun i σ'=>¬ (base≤a∧0≤n∧a - base+n≤size)∧dH D σ' i "memory" pc∧Keep σ σ'):=by
 (refine bC (W.machD 1 _ rfl) fun pm cd DD=>?_)
 have B:=W.B
 refine ch ["self", "address", "size"] Cq ["Trap"] ["place"] 2 DD (by kernel_rfl) rfl (fW fun _ _ _=>rfl) rfl (by(simp only[lxp,lxq,lxr,lxs,lxt,bV,bU];rfl)) ?_
 by_cases c:base≤a∧0≤n∧a - base+n≤size
 ·(refine aA rfl<|aX rfl<|aH<|aa rfl<|cn ‹_› ‹_› ‹_› rfl (by decide)<|o2 (fun _=>cC)<|aw rfl<|ap<|bY<|b6<|bo<|aY<|aa rfl<|dE (fun _=>dN) ?_;refine au ?_ ?_;(apply decide_eq_false;exact Int.not_lt.mpr (jk c.1));refine bo<|aY<|aa rfl<|dE (fun _=>dN) ?_;refine au ?_ ?_;(apply decide_eq_false;exact Int.not_lt.mpr c.2.1);refine bo<|aY<|aX rfl<|aa rfl<|o2 (fun _=>bh)<|aH<|aa rfl<|cn ‹_› ‹_› ‹_› rfl (by decide)<|eL (fun _=>fk) ?_;refine au ?_ ?_;(apply decide_eq_false;exact Int.not_lt.mpr c.2.2);refine cz<|au rfl<|aI<|bE<|aa rfl<|aM ?_)
  exact⟨c,rfl,rfl⟩
 ·by_cases c1:a - base < 0
  ·(refine aA rfl<|aX rfl<|aH<|aa rfl ?_;apply cn;assumption;assumption;assumption;exact rfl;decide;refine o2 (fun _=>cC)<|aw rfl<|ap<|bY<|b6<|bo<|aY<|aa rfl<|dE (fun _=>dN) ?_;refine aR ?_ ?_;(apply decide_eq_true;assumption);refine aR ?_ ?_;rfl;refine aW<|cD rfl<|b7 ?_;apply ax;assumption;exact rfl;assumption;refine bx<|af<|aH<|aa rfl ?_;apply cn;assumption;assumption;assumption;exact rfl;decide;apply ac;refine⟨ok fun _=>by(apply dc;assumption),?_⟩;apply dQ;assumption;assumption;exact rfl;decide)
   exact⟨_,_,_,_,rfl,W.trapC,dh.1,c,dh.2⟩
  ·by_cases c2:n < 0
   ·(refine aA rfl<|aX rfl<|aH<|aa rfl ?_;apply cn;assumption;assumption;assumption;exact rfl;decide;refine o2 (fun _=>cC)<|aw rfl<|ap<|bY<|b6<|bo<|aY<|aa rfl<|dE (fun _=>dN) ?_;refine au ?_ ?_;(apply decide_eq_false;assumption);refine bo<|aY<|aa rfl<|dE (fun _=>dN) ?_;refine aR ?_ ?_;(apply decide_eq_true;assumption);refine aR ?_ ?_;rfl;refine aW<|cD rfl<|b7 ?_;apply ax;assumption;exact rfl;assumption;refine bx<|af<|aH<|aa rfl ?_;apply cn;assumption;assumption;assumption;exact rfl;decide;apply ac;refine⟨ok fun _=>by(apply dc;assumption),?_⟩;apply dQ;assumption;assumption;exact rfl;decide)
    exact⟨_,_,_,_,rfl,W.trapC,dh.1,c,dh.2⟩
   ·(refine aA rfl<|aX rfl<|aH<|aa rfl ?_;apply cn;assumption;assumption;assumption;exact rfl;decide;refine o2 (fun _=>cC)<|aw rfl<|ap<|bY<|b6<|bo<|aY<|aa rfl<|dE (fun _=>dN) ?_;refine au ?_ ?_;(apply decide_eq_false;assumption);refine bo<|aY<|aa rfl<|dE (fun _=>dN) ?_;refine au ?_ ?_;(apply decide_eq_false;assumption);refine bo<|aY<|aX rfl<|aa rfl<|o2 (fun _=>bh)<|aH<|aa rfl ?_;apply cn;assumption;assumption;assumption;exact rfl;decide;refine eL (fun _=>fk) ?_;refine aR ?_ ?_;(apply decide_eq_true;lia);refine aR ?_ ?_;rfl;refine aW<|cD rfl<|b7 ?_;apply ax;assumption;exact rfl;assumption;refine bx<|af<|aH<|aa rfl ?_;apply cn;assumption;assumption;assumption;exact rfl;decide;apply ac;refine⟨ok fun _=>by(apply dc;assumption),?_⟩;apply dQ;assumption;assumption;exact rfl;decide)
    exact⟨_,_,_,_,rfl,W.trapC,dh.1,c,dh.2⟩
noncomputable abbrev Cr:List Str:=["self", "address", "width"]
theorem je (W:Wd G D gt bt) (hE:bt.lookup (Str.ofString "Exception")=some (.type "Exception")) (hT:gt.lookup (Str.ofString "Trap")=some (.base D.trap))
  (hm:σ[m]? = some (.inst D.mach fs)) (h0:fs.lookup (Str.ofString "place_of")=none) (h1:fs.lookup (Str.ofString "base")=some (.int base)) (h2:fs.lookup (Str.ofString "size")=some (.int size)) (h3:fs.lookup (Str.ofString "pc")=some (.int pc)) (hn:0 < n) :
  CtP G 4 σ (.base (D.m 2)) [.dyn m,.int a,.int n] (fun r σ'=>(a % n=0∧base≤a∧a - base+n≤size)∧r = .int (a - base)∧σ'=σ)
   (fun i σ'=>(∃w,dH D σ' i w pc∧((w = "align" ∧ a % n≠0)∨(w = "memory" ∧ a % n=0∧¬ (base≤a∧a - base+n≤size))))∧Keep σ σ'):=by
 (refine bC (W.machD 2 _ rfl) fun pm cd DD=>?_)
 have B:=W.B
 refine ch ["self", "address", "width"] Cr ["Trap"] [] 3 DD (by kernel_rfl) rfl (fW fun _ _ _=>rfl) rfl (by(simp only[lxp,lxq,lxr,lxs,lxt,bV,bU];rfl)) ?_
 by_cases c:a % n=0
 ·refine ay rfl<|aX rfl<|aa rfl<|o2 (fun _=>cw (by assumption))<|dE (fun _=>fj)<|au (cj ‹_›)<|aI<|fo<|bq<|aa rfl ?_
  refine eu 1 W (by assumption) h0 rfl (by decide) ?_
  (refine ai rfl<|ai rfl<|ac ?_;refine⟨ok fun _=>by(apply di;assumption;exact rfl),?_⟩)
  refine bj (CtP.imp (j0 W hE hT hm h1 h2 h3) (fun r σ' qq=>?_) (fun i σ' qx=>?_)) rfl (by decide)
  ·(refine dA qq fun q1 q2 q3=>?_;clear qq)
   exact⟨⟨c,q1.1,q1.2.2⟩,q2,q3⟩
  ·(refine dA qx fun q1 q2 q3=>?_;clear qx)
   exact⟨⟨_,q2,.inr ⟨rfl,c,fun q=>q1 ⟨q.1,Int.le_of_lt hn,q.2⟩⟩⟩,q3⟩
 ·(refine ay rfl<|aX rfl<|aa rfl ?_;refine o2 (fun _=>cw (by assumption)) ?_;refine dE (fun _=>fj) ?_;refine aR ?_ ?_;(apply dU;assumption);refine aW<|cD rfl<|b7 ?_;apply ax;assumption;exact rfl;assumption;refine bx<|af<|aH<|aa rfl ?_;apply cn;assumption;assumption;assumption;exact rfl;decide;apply ac;refine⟨ok fun _=>by(apply dc;assumption),?_⟩;apply dQ;assumption;assumption;exact rfl;decide)
  exact⟨_,_,_,_,rfl,W.trapC,dh.1,⟨_,dh.2.1,.inl ⟨rfl,c⟩⟩,dh.2.2⟩
end
section
variable {G:Gd} {D:Ad} {gt bt:List (Str×AV)} {σ:List AO} {C:Cx} {lv:List (Str×AV)}
theorem lM {lo hi:Option Int} {K:AV→List AO→Prop} (hi':σ[i]? = some (.barr b)) (hj:σ[j]? = some (.slc lo hi)) (hz:b.length≤16777216)
  (hs:∀o i,subscripted slice false o i=operate [i,o] (getItem o i)) (k:K (.dyn σ.length) (σ++[.barr (cut b lo hi)])):lj G C σ slice (.dyn i) (.dyn j) K:=xe (fun _=>nR hi' hj hz hs) k
theorem tG {K:AV→List AO→Prop} (hi':σ[i]? = some (.barr b)) (h0:0≤n) (h1:n < 2 ^ 63) (hx:b[n.toNat]? = some x)
  (hs:∀o i,subscripted slice false o i=operate [o,i] (getItem o i)) (k:K (.int x.toNat) σ):lj G C σ slice (.dyn i) (.int n) K:=xe (fun _=>pq hi' h0 h1 hx hs) k
theorem bu {K:AV→List AO→Prop} (hi':σ[i]? = some (.list xs)) (h0:0≤n) (h1:n < 2 ^ 63) (hx:xs[n.toNat]? = some x)
  (hs:∀o i,subscripted slice false o i=operate [o,i] (getItem o i)) (k:K x σ):lj G C σ slice (.dyn i) (.int n) K:=xe (fun _=>vn hi' h0 h1 hx hs) k
theorem BA {K:AV→List AO→Prop} (hi:σ[i]? = some (.obj KFB.bound)) (hj:σ[j]? = some (.barr b)) (hl:b.length≤8) (k:K (.int (By.le b)) σ):kd G C σ (.dyn i) [.dyn j,.str "little"] K:=oc (fun _=>BC hi hj hl) k
theorem ie {K:AV→List AO→Prop} (hi:σ[i]? = some (.barr b)) (hz:b.length≤16777216) (k:K (.bytes b) σ):kd G C σ (.type "bytes") [.dyn i] K:=oc (fun _=>pN hi hz) k
theorem dg {K:AV→List AO→Prop} (hn:C.n=some n) (hi:σ[i]? = some (.list (ns.map .int))) (hr:∀n∈ns,0≤n∧n < 256) (hz:ns.length≤16777216) (k:K (.bytes (cc ns)) σ):kd G C σ (.type "bytes") [.dyn i] K:=BH hn (fun _ R=>md R.handled hi hr hz) k
theorem db {n x:Int} {ns:List Int} {K:List AO→Prop} (hi:σ[i]? = some (.list (ns.map .int))) (h0:0≤n) (h1:n < ns.length) (h2:n < 2 ^ 63) (k:K (σ.set i (.list ((ns.set n.toNat x).map .int)))):jT G C σ setItem (.dyn i) (.int n) (.int x) K :=
 od (fun _=>lG hi h0 h2 (by simpa using h1) (by rw[List.map_set])) k
theorem lL {lo hi:Option Int} {K:List AO→Prop} (hi':σ[i]? = some (.barr b)) (hj:σ[j]? = some (.slc lo hi)) (hz:b.length+d.length≤16777216)
  (k:K (σ.set i (.barr (b.take (cL b.length lo)++d++b.drop (max (cL b.length lo) (d9 b.length hi)))))):jT G C σ setItem (.dyn i) (.dyn j) (.bytes d) K:=od (fun _=>pI hi' hj hz) k
theorem iC {K:AV→List AO→Prop} (hi:σ[i]? = some (.barr b)) (hn:b.length < 2 ^ 63) (k:K (.int b.length) σ):kd G C σ (.builtin "len") [.dyn i] K:=oc (fun _=>tL hi hn) k
theorem eT {K:AV→List AO→Prop} (hn:b.length≤1099511627776) (k:K (.int b.length) σ):kd G C σ (.builtin "len") [.bytes b] K:=oc (fun _=>om hn) k
theorem c7 {K:AV→List AO→Prop} (hi:σ[i]? = some (.list xs)) (hn:(xs.length:Int) < 2 ^ 63) (k:K (.int xs.length) σ):kd G C σ (.builtin "len") [.dyn i] K:=oc (fun _=>pM hi hn) k
theorem wn {K:AV→List AO→Prop} (hn:C.n=some n) (k:K (.int (min a b)) σ):kd G C σ (.builtin "min") [.int a,.int b] K:=BH hn (fun _ R=>zX R.handled) k
theorem wo {K:AV→List AO→Prop} (hn:C.n=some n) (k:K (.int (max a b)) σ):kd G C σ (.builtin "max") [.int a,.int b] K:=BH hn (fun _ R=>zY R.handled) k
theorem tH {K:AV→List AO→Prop} (h0:0≤n) (h1:n≤16777216) (k:K (.dyn σ.length) (σ++[.barr (List.replicate n.toNat 0)])):kd G C σ (.type "bytearray") [.int n] K:=oc (fun _=>tN h0 h1) k
theorem m0 {K:AV→List AO→Prop} (k:K (.dyn σ.length) (σ++[.barr []])):kd G C σ (.type "bytearray") [] K:=oc (fun _=>tM) k
theorem nU:fy G A σ (binaryOp .BitAnd) (.int a) (.int 4294967295) (.int (a % 4294967296)) σ:=by rw[← bitAnd_m32];exact gu
theorem vu:fy G A σ (binaryOp .BitAnd) (.int a) (.int 255) (.int (a % 256)) σ:=by rw[← bitAnd_m8];exact gu
theorem pv:fy G A σ (binaryOp .BitAnd) (.int a) (.int 127) (.int (a % 128)) σ:=by rw[← bitAnd_m7];exact gu
theorem pz:fy G A σ (binaryOp .BitAnd) (.int a) (.int 7) (.int (a % 8)) σ:=by rw[← bitAnd_m3];exact gu
theorem pA:fy G A σ (binaryOp .BitAnd) (.int a) (.int 3) (.int (a % 4)) σ:=by rw[← bitAnd_m2];exact gu
theorem uT {a n:Int} (h0:0≤a) (h1:0≤n) (h2:a+n≤xs.length):cut xs (some a) (some (a+n))=(xs.drop a.toNat).take n.toNat:=by
 unfold cut cL d9
 simp only[Option.elim]
 rw[clipAt_in h0 (Int.le_trans (Int.le_add_of_nonneg_right h1) h2),clipAt_in (Int.add_nonneg h0 h1) h2,Int.toNat_add h0 h1,Nat.add_sub_cancel_left]
theorem xr {a n:Int} (h0:0≤a) (h1:0≤n) (h2:a+n≤xs.length):(cut xs (some a) (some (a+n))).length=n.toNat:=by
 rw[uT h0 h1 h2,List.length_take,List.length_drop]
 exact Nat.min_eq_left (by omega)
theorem ig {K:List (Str×AV)→List AO→Prop} (hn:C.n=some n) (hi:σ[i]? = some (.tuple xs)) (he:es.length=xs.length)
  (hl:∀env,(assignEach es env).length=es.length) (hst:∀env,(assignEach es env).findIdx? (·.1)=none) (y:qW G C lv σ es xs K):fH G C lv σ (.Tuple es k pos) (.dyn i) K:=wB hn hi he y hl hst
theorem wD {K:List (Str×AV)→List AO→Prop} (hn:C.n=some n) (hi:σ[i]? = some (.list xs)) (he:es.length=xs.length)
  (hl:∀env,(assignEach es env).length=es.length) (hst:∀env,(assignEach es env).findIdx? (·.1)=none) (y:qW G C lv σ es xs K):fH G C lv σ (.Tuple es k pos) (.dyn i) K:=wC hn hi he y hl hst
theorem lK {ns:List Int} {K:AV→List AO→Prop} (hi:σ[i]? = some (.tuple (ns.map .int))) (k:K (.bool (ns.any (·==x))) σ):ib G C σ (compareOp .In) (.int x) (.dyn i) K:=o2 (fun _=>qw hi) k
theorem jU {K:AV→List AO→Prop} (T:TabS G a f) (k:K (.bool (f x).isSome) σ):ib G C σ (compareOp .In) (.str x) (.base a) K:=o2 (fun _=>zt T) k
theorem rI {K:AV→List AO→Prop} (T:TabS G a f) (hy:f x=some y) (hr:zl r y) (hs:∀o i,subscripted slice false o i=operate [o,i] (getItem o i)) (k:K r σ):lj G C σ slice (.base a) (.str x) K:=xe (fun _=>Bo T hy hr hs) k
theorem tD {vs:List Value} {K:AV→List AO→Prop} (ht:G.g.IsTuple a vs.toArray) (h0:0≤n) (h1:n < 2 ^ 63) (hy:vs[n.toNat]? = some y) (hr:zl r y) (hs:∀o i,subscripted slice false o i=operate [o,i] (getItem o i)) (k:K r σ):lj G C σ slice (.base a) (.int n) K:=xe (fun _=>vm ht h0 h1 hy hr hs) k
theorem rK {K:AV→List AV→Prop} (T:TabI G a f) (k:K (.builtin "dict.get") [.base a]):pC G C σ (.base a) "get" K:=og (fun _=>zz T) k
theorem wq {K:AV→List AO→Prop} (T:TabI G a f) (hr:match f n with | some y=>zl r y | none=>r=d) (k:K r σ):kd G C σ (.builtin "dict.get") [.base a,.int n,d] K:=oc (fun _=>z5 T hr) k
theorem fu {K:AV→List AO→Prop} (k:K (.dyn σ.length) (σ++[.idict []])):cW G C lv σ (.Dict [] [] pos) K:=⟨_,_,fun _ _=>vW (.inl rfl),k⟩
theorem pt:fy G A σ (binaryOp .RShift) (.int a) (.int 12) (.int (a.fdiv 4096)) σ:=zp (by decide)
structure DAd where
 names:Addr
 instr:Addr
 row:Addr
 places:Addr
 rowE:Addr
 bounds:Addr
 nameOf:Addr
 decode:Addr
 signed:Addr
structure Dec (G:Gd) (E:DAd) (gt:List (Str×AV)):Prop where
 names:∃f,TabI G E.names f∧(∃t,f 115=some (.str "ecall" t))∧f 0=none
 instr:∃f,TabS G E.instr f∧f "ecall" = some (.ref E.row)
 row:∃t v,G.g.IsTuple E.row [Value.str "E" t,v].toArray
 places:∃f,TabS G E.places f∧f "E" = some (.ref E.rowE)
 rowE:G.g.IsTuple E.rowE ([]:List Value).toArray
 bounds:∃f,TabS G E.bounds f∧f "E" = none
 gLUI:gt.lookup (Str.ofString "LUI")=some (.int 55)
 gAUIPC:gt.lookup (Str.ofString "AUIPC")=some (.int 23)
 gJAL:gt.lookup (Str.ofString "JAL")=some (.int 111)
 gWI:gt.lookup (Str.ofString "WITH_IMM")=some (.int 19)
 gWR:gt.lookup (Str.ofString "WITH_REG")=some (.int 51)
 gF:gt.lookup (Str.ofString "FENCE")=some (.int 15)
 gS:gt.lookup (Str.ofString "SYSTEM")=some (.int 115)
 gN:gt.lookup (Str.ofString "NAMES_BY_BASE")=some (.base E.names)
 gI:gt.lookup (Str.ofString "INSTRUCTIONS")=some (.base E.instr)
 gP:gt.lookup (Str.ofString "PLACES")=some (.base E.places)
 gB:gt.lookup (Str.ofString "BOUNDS")=some (.base E.bounds)
 gNO:gt.lookup (Str.ofString "name_of")=some (.base E.nameOf)
 gD:gt.lookup (Str.ofString "decode")=some (.base E.decode)
 gSW:gt.lookup (Str.ofString "signed_word")=some (.base E.signed)
 gSG:gt.lookup (Str.ofString "SIGN")=some (.int 2147483648)
 nameOfD:∃pm cd,DefAt G E.nameOf (dF (dD kK) "name_of" pm cd)
 decodeD:∃pm cd,DefAt G E.decode (dF (dD k9) "decode" pm cd)
 signedD:∃pm cd,DefAt G E.signed (dF (dD kD) "signed_word" pm cd)
end
section
set_option maxHeartbeats 4000000
variable {G:Gd} {D:Ad} {gt bt:List (Str×AV)} {σ:List AO} {C:Cx} {lv:List (Str×AV)}
noncomputable abbrev CF:List Str:=["self", "address", "width", "place"]
theorem rg (W:Wd G D gt bt) (hE:bt.lookup (Str.ofString "Exception")=some (.type "Exception")) (hint:bt.lookup (Str.ofString "int")=some (.type "int")) (hT:gt.lookup (Str.ofString "Trap")=some (.base D.trap))
  (hm:σ[m]? = some (.inst D.mach fs)) (h00:fs.lookup (Str.ofString "place_for")=none) (h0:fs.lookup (Str.ofString "place_of")=none) (h1:fs.lookup (Str.ofString "base")=some (.int base)) (h2:fs.lookup (Str.ofString "size")=some (.int size)) (h3:fs.lookup (Str.ofString "pc")=some (.int pc))
  (h4:fs.lookup (Str.ofString "memory")=some (.dyn me)) (h5:σ[me]? = some (.barr mem)) (hz:mem.length≤16777216) (hl:(mem.length:Int)=size) (hn:0 < n) (hn8:n≤8) :
  CtP G 5 σ (.base (D.m 3)) [.dyn m,.int a,.int n] (fun r σ'=>(a % n=0∧base≤a∧a - base+n≤size)∧r = .int (By.le (cut mem (some (a - base)) (some (a - base+n))))∧Keep σ σ')
   (fun i σ'=>(∃w,dH D σ' i w pc∧((w = "align" ∧ a % n≠0)∨(w = "memory" ∧ a % n=0∧¬ (base≤a∧a - base+n≤size))))∧Keep σ σ'):=by
 (refine bC (W.machD 3 _ rfl) fun pm cd DD=>?_)
 have B:=W.B
 refine ch ["self", "address", "width"] CF ["int"] ["place"] 4 DD (by kernel_rfl) rfl (fW fun _ _ _=>rfl) rfl (by(simp only[lxp,lxq,lxr,lxs,lxt,bV,bU];rfl)) ?_
 refine b5 rfl<|bq<|aa rfl ?_
 refine eu 2 W (by assumption) h00 rfl (by decide) ?_
 (refine ai rfl<|ai rfl<|ac ?_;refine⟨ok fun _=>by(apply di;assumption;exact rfl),?_⟩;dsimp only[bU,bV])
 refine bj (CtP.imp (je W hE hT hm h0 h1 h2 h3 hn) (fun r σ' qq=>?_) (fun i σ' q=>q)) rfl (by decide)
 (refine dA qq fun q1 q2 q3=>?_;clear qq)
 subst q2 q3
 have hcl:(cut mem (some (a - base)) (some (a - base+n))).length≤8:=by rw[xr (jk q1.2.1) (Int.le_of_lt hn) (Int.le_trans q1.2.2 (Int.le_of_eq hl.symm))];lia
 (refine aw rfl<|ap<|bE<|tx<|eq ‹_› rfl ‹_› ?_;(with_reducible refine Dn (fun _=>zA) ?_);refine af<|bg<|aH<|aa rfl<|cn ‹_› (ad ‹_›) ‹_› rfl (by decide)<|fq<|aa rfl ?_;refine⟨_,rfl,?_⟩;refine aX rfl<|aa rfl<|o2 (fun _=>bh) ?_;refine⟨_,rfl,?_⟩;refine lM (ad (ad ‹_›)) (aj rfl rfl) ‹_› (fun _ _=>by with_unfolding_all rfl)<|bx<|ac ?_;refine⟨ok fun _=>by(apply zv;(apply ad;apply ad;apply aj;simp only[lxS,lxA,lxC,lxN,lxY,lxZ,Nat.reduceAdd];simp only[bS,bT,Int.reduceToNat,lxg,lxh])),?_⟩;dsimp only[bU,bV];apply BA;(apply ad;apply ad;apply aj;simp only[lxS,lxA,lxC,lxN,lxY,lxZ,Nat.reduceAdd];simp only[bS,bT,Int.reduceToNat,lxg,lxh]);exact aj rfl rfl;assumption;refine aM ?_)
 exact⟨q1,rfl,fun i o h=>ad (ad (ad h))⟩
noncomputable abbrev Cu:List Str:=["self", "address", "size", "place"]
theorem nq (W:Wd G D gt bt) (hE:bt.lookup (Str.ofString "Exception")=some (.type "Exception")) (hby:bt.lookup (Str.ofString "bytes")=some (.type "bytes")) (hT:gt.lookup (Str.ofString "Trap")=some (.base D.trap))
  (hm:σ[m]? = some (.inst D.mach fs)) (h0:fs.lookup (Str.ofString "place_of")=none) (h1:fs.lookup (Str.ofString "base")=some (.int base)) (h2:fs.lookup (Str.ofString "size")=some (.int size)) (h3:fs.lookup (Str.ofString "pc")=some (.int pc))
  (h4:fs.lookup (Str.ofString "memory")=some (.dyn me)) (h5:σ[me]? = some (.barr mem)) (hz:mem.length≤16777216) :
  CtP G 4 σ (.base (D.m 5)) [.dyn m,.int a,.int n] (fun r σ'=>(base≤a∧0≤n∧a - base+n≤size)∧r = .bytes (cut mem (some (a - base)) (some (a - base+n)))∧Keep σ σ')
   (fun i σ'=>¬ (base≤a∧0≤n∧a - base+n≤size)∧dH D σ' i "memory" pc∧Keep σ σ'):=by
 (refine bC (W.machD 5 _ rfl) fun pm cd DD=>?_)
 have B:=W.B
 refine ch ["self", "address", "size"] Cu ["bytes"] ["place"] 3 DD (by kernel_rfl) rfl (fW fun _ _ _=>rfl) rfl (by(simp only[lxp,lxq,lxr,lxs,lxt,bV,bU];rfl)) ?_
 refine b5 rfl<|bq<|aa rfl ?_
 refine eu 1 W (by assumption) h0 rfl (by decide) ?_
 (refine ai rfl<|ai rfl<|ac ?_;refine⟨ok fun _=>by(apply di;assumption;exact rfl),?_⟩;dsimp only[bU,bV])
 refine bj (CtP.imp (j0 W hE hT hm h1 h2 h3) (fun r σ' qq=>?_) (fun i σ' q=>q)) rfl (by decide)
 (refine dA qq fun q1 q2 q3=>?_;clear qq)
 subst q2 q3
 have hcl:(cut mem (some (a - base)) (some (a - base+n))).length≤16777216:=Nat.le_trans (dM ..) hz
 (refine aw rfl<|ap<|bE<|cb rfl ‹_› rfl ‹_›<|af<|bg<|aH<|aa rfl<|cn ‹_› ‹_› ‹_› rfl (by decide)<|fq<|aa rfl ?_;refine⟨_,rfl,?_⟩;refine aX rfl<|aa rfl<|o2 (fun _=>bh) ?_;refine⟨_,rfl,?_⟩;refine lM (ad ‹_›) (aj rfl rfl) ‹_› (fun _ _=>by with_unfolding_all rfl)<|ac<|aT<|ie (aj rfl rfl) ‹_›<|aM ?_)
 exact⟨q1,rfl,fun i o h=>ad (ad h)⟩
noncomputable abbrev Co:List Str:=["self", "number", "value"]
noncomputable def putReg (regs:List Int) (n v:Int):List Int:=if n=0 then regs else regs.set n.toNat (v % 4294967296)
theorem kG {n v:Int} (W:Wd G D gt bt) (hM:gt.lookup (Str.ofString "WORD_MASK")=some (.int 4294967295))
  (hm:σ[m]? = some (.inst D.mach fs)) (h1:fs.lookup (Str.ofString "registers")=some (.dyn r)) (h2:σ[r]? = some (.list (regs.map .int))) (h3:0≤n) (h4:n < regs.length) (h5:regs.length=32) :
  CtP G 1 σ (.base (D.m 6)) [.dyn m,.int n,.int v] (fun x σ'=>x = .none∧σ'=σ.set r (.list ((putReg regs n v).map .int))) (fun _ _=>False):=by
 (refine bC (W.machD 6 _ rfl) fun pm cd DD=>?_)
 have B:=W.B
 refine ch ["self", "number", "value"] Co ["WORD_MASK"] [] 0 DD (by kernel_rfl) rfl (fW fun _ _ _=>rfl) rfl (by(simp only[lxp,lxq,lxr,lxs,lxt,bV,bU];rfl)) ?_
 by_cases c:n=0
 ·refine ay rfl<|aa rfl<|dE (fun _=>fj)<|au (cj ‹_›)<|aI<|bH ?_
  refine⟨rfl,?_⟩
  unfold putReg
  rw[if_pos c,mn h2]
 ·refine ay rfl<|aa rfl<|dE (fun _=>fj)<|aR (dU ‹_›)<|aA rfl<|aX rfl<|ax ‹_› rfl ‹_›<|o2 (fun _=>nU)<|ck<|aH<|aa rfl<|cn ‹_› ‹_› ‹_› rfl (by decide)<|aa rfl<|db ‹_› ‹_› ‹_› (by lia)<|ap<|aI<|bH ?_
  refine⟨rfl,?_⟩
  unfold putReg
  rw[if_neg c]
end
section
set_option maxHeartbeats 4000000
variable {G:Gd} {D:Ad} {E:DAd} {gt bt:List (Str×AV)} {σ:List AO} {C:Cx} {lv:List (Str×AV)}
noncomputable abbrev AI:List Str:=["word", "opcode", "low"]
noncomputable abbrev AJ:List Str:=["LUI", "AUIPC", "JAL", "NAMES_BY_BASE", "SYSTEM", "FENCE", "WITH_REG", "WITH_IMM"]
theorem oU (W:Wd G D gt bt) (Z:Dec G E gt):CtP G 1 σ (.base E.nameOf) [.int 115] (fun r σ'=>r = .str "ecall" ∧ Keep σ σ') (fun _ _=>False):=by
 (refine bC (Z.nameOfD) fun pm cd DD=>?_)
 (refine fX (Z.names) fun f T zz2 f0=>?_;refine b8 zz2 fun t f1=>?_;clear zz2)
 have B:=W.B
 have g1:=Z.gLUI
 have g2:=Z.gAUIPC
 have g3:=Z.gJAL
 have g4:=Z.gN
 have g5:=Z.gS
 refine ch ["word"] AI AJ ["opcode", "low"] 0 DD (by kernel_rfl) rfl (jH fun _=>rfl) rfl (by(simp only[lxp,lxq,lxr,lxs,lxt,bV,bU];rfl)) ?_
 (refine aW<|dV rfl (by exact rfl) (by exact rfl) rfl (by rw[bG];rfl) rfl rfl rfl<|b9<|af<|aX rfl<|i2 (fun _=>pv)<|af<|aG<|aX rfl<|i2 (fun _=>pt)<|i2 (fun _=>pz)<|ac<|aL rfl ?_;apply Exists.intro;apply Exists.intro;apply Exists.intro;refine And.intro rfl ?_;apply And.intro;exact aj rfl rfl;refine ap<|ay rfl<|aa rfl<|b9<|af<|ax ‹_› rfl ‹_›<|af<|ax ‹_› rfl ‹_›<|af<|ax ‹_› rfl ‹_›<|ac<|aL rfl ?_)
 refine lK (ns:=[55,23,111]) (by exact aj rfl rfl) ?_
 have e1:([55,23,111].any fun z=>z==(115 % 128:Int))=false:=by decide
 have e2:((115 % 128:Int)==115)=true:=by decide
 refine aJ<|au ‹_›<|aI<|ay rfl<|aa rfl<|ax ‹_› rfl ‹_›<|eL (fun _=>bL)<|aR ‹_›<|fo<|bq<|ax ‹_› rfl ‹_› ?_
 refine rK T ?_
 (refine ai rfl<|bx<|ac<|aB ?_;dsimp only[bU,bV])
 refine BG (wq (r := .str "ecall") T (by rw[f1];exact fun π n=>⟨t,rfl⟩) ?_)
 refine aM<|aM ?_
 exact⟨rfl,fun i o h=>ad (ad h)⟩
theorem sh (W:Wd G D gt bt) (Z:Dec G E gt):CtP G 1 σ (.base E.nameOf) [.int 0] (fun r σ'=>r = .str "" ∧ Keep σ σ') (fun _ _=>False):=by
 (refine bC (Z.nameOfD) fun pm cd DD=>?_)
 (refine fX (Z.names) fun f T _ f0=>?_)
 have B:=W.B
 have g1:=Z.gLUI
 have g2:=Z.gAUIPC
 have g3:=Z.gJAL
 have g4:=Z.gN
 have g5:=Z.gS
 have g6:=Z.gF
 have g7:=Z.gWR
 have g8:=Z.gWI
 refine ch ["word"] AI AJ ["opcode", "low"] 0 DD (by kernel_rfl) rfl (jH fun _=>rfl) rfl (by(simp only[lxp,lxq,lxr,lxs,lxt,bV,bU];rfl)) ?_
 (refine aW<|dV rfl (by exact rfl) (by exact rfl) rfl (by rw[bG];rfl) rfl rfl rfl<|b9<|af<|aX rfl<|i2 (fun _=>pv)<|af<|aG<|aX rfl<|i2 (fun _=>pt)<|i2 (fun _=>pz)<|ac<|aL rfl ?_;apply Exists.intro;apply Exists.intro;apply Exists.intro;refine And.intro rfl ?_;apply And.intro;exact aj rfl rfl;refine ap<|ay rfl<|aa rfl<|b9<|af<|ax ‹_› rfl ‹_›<|af<|ax ‹_› rfl ‹_›<|af<|ax ‹_› rfl ‹_›<|ac<|aL rfl ?_)
 refine lK (ns:=[55,23,111]) (by exact aj rfl rfl) ?_
 have e1:([55,23,111].any fun z=>z==(0 % 128:Int))=false:=by decide
 have e2:((0 % 128:Int)==115)=false:=by decide
 have e3:((0 % 128:Int)==15)=false:=by decide
 have e4:((0 % 128:Int)==51)=false:=by decide
 have e5:((0 % 128:Int)==19)=false:=by decide
 refine aJ<|au ‹_›<|aI<|ay rfl<|aa rfl<|ax ‹_› rfl ‹_›<|eL (fun _=>bL)<|au ‹_›<|aI<|ay rfl<|aa rfl<|ax ‹_› rfl ‹_›<|eL (fun _=>bL)<|au ‹_›<|aI<|bY<|b6<|bo<|aY<|aa rfl<|ax ‹_› rfl ‹_›<|eL (fun _=>bL)<|au ‹_›<|bo<|b6<|jt<|aY<|aa rfl<|ax ‹_› rfl ‹_›<|eL (fun _=>bL)<|au ‹_›<|au rfl<|cz<|au rfl<|aI<|fo<|bq<|ax ‹_› rfl ‹_› ?_
 refine rK T ?_
 (refine af<|aX rfl<|i2 (fun _=>gu)<|bx<|ac<|aB ?_;dsimp only[bU,bV])
 have eb:Builtin.bitAnd 0 28799=0:=by decide
 rw[eb]
 refine BG (wq (r := .str "") T (by rw[f0]) ?_)
 apply aM
 exact⟨rfl,fun i o h=>ad (ad h)⟩
end
section
set_option maxHeartbeats 4000000
variable {G:Gd} {D:Ad} {E:DAd} {gt bt:List (Str×AV)} {σ:List AO} {C:Cx} {lv:List (Str×AV)}
noncomputable abbrev A8:List Str:=["word", "name", "form", "fields", "key", "shift"]
noncomputable abbrev Ba:List Str:=["name_of", "INSTRUCTIONS", "PLACES", "BOUNDS", "imm_of"]
theorem pf (W:Wd G D gt bt) (Z:Dec G E gt):CtP G 2 σ (.base E.decode) [.int 0] (fun r σ'=>r = .none∧Keep σ σ') (fun _ _=>False):=by
 (refine bC (Z.decodeD) fun pm cd DD=>?_)
 (refine bC (Z.nameOfD) fun pm' cd' DN=>?_)
 have B:=W.B
 have g1:=Z.gNO
 refine ch ["word"] A8 Ba ["name", "form", "fields", "key", "shift"] 1 DD (by kernel_rfl) rfl (jH fun _=>rfl) rfl (by(simp only[lxp,lxq,lxr,lxs,lxt,bV,bU];rfl)) ?_
 refine b5 rfl<|bF rfl ‹_› rfl ‹_›<|ai rfl<|ac<|aD ‹_› ?_
 refine cp (sh W Z) rfl rfl fun r σ' qq=>?_
 (refine bD qq fun q1 q2=>?_;clear qq)
 subst q1
 refine aw rfl<|ap<|ay rfl<|aa rfl<|cB<|eL (fun _=>jP)<|aR rfl<|bE<|dO<|aM<|aM ?_
 exact⟨rfl,q2⟩
theorem qk (W:Wd G D gt bt) (Z:Dec G E gt):CtP G 2 σ (.base E.decode) [.int 115] (fun r σ'=>∃i j,r = .dyn i∧σ'[i]? = some (.tuple [.str "ecall",.dyn j])∧σ'[j]? = some (.idict [])∧Keep σ σ') (fun _ _=>False):=by
 (refine bC (Z.decodeD) fun pm cd DD=>?_)
 (refine bC (Z.nameOfD) fun pm' cd' DN=>?_)
 (refine aF (Z.instr) fun fi Ti i1=>?_)
 (refine aF (Z.places) fun fp Tp p1=>?_)
 (refine aF (Z.bounds) fun fb Tb b1=>?_)
 (refine bC (Z.row) fun t v hr=>?_)
 have B:=W.B
 have g1:=Z.gNO
 have g2:=Z.gI
 have g3:=Z.gP
 have g4:=Z.gB
 refine ch ["word"] A8 Ba ["name", "form", "fields", "key", "shift"] 1 DD (by kernel_rfl) rfl (jH fun _=>rfl) rfl (by(simp only[lxp,lxq,lxr,lxs,lxt,bV,bU];rfl)) ?_
 refine b5 rfl<|bF rfl ‹_› rfl ‹_›<|ai rfl<|ac<|aD ‹_› ?_
 refine cp (oU W Z) rfl rfl fun r σ' qq=>?_
 (refine bD qq fun q1 q2=>?_;clear qq)
 subst q1
 refine aw rfl<|ap<|ay rfl<|aa rfl<|cB<|eL (fun _=>jP)<|au rfl<|aI<|aA rfl<|bg<|bg<|ax ‹_› rfl ‹_›<|aa rfl ?_
 refine rI (r := .base E.row) Ti i1 (fun π n=>rfl) (by intro _ _;with_unfolding_all rfl) ?_
 apply bf
 refine tD (r := .str "E") hr (by decide) (by decide) rfl (fun π n=>⟨t,rfl⟩) (by intro _ _;with_unfolding_all rfl) ?_
 refine aw rfl<|ap<|aA rfl<|fu<|aw rfl<|ap<|aW ?_
 refine eJ rfl ?_
 refine bg<|ax ‹_› rfl ‹_›<|aa rfl ?_
 refine rI (r := .base E.rowE) Tp p1 (fun π n=>rfl) (by intro _ _;with_unfolding_all rfl) ?_
 refine⟨[],fun _=>True,fun A hh=>vz hh Z.rowE .nil,ei rfl trivial ?_⟩
 refine ap<|ay rfl<|aa rfl<|ax ‹_› rfl ‹_› ?_
 refine jU Tb ?_
 rw[b1]
 dsimp only[Option.isSome_none]
 refine aJ<|au rfl<|aI<|bE<|b9<|ai rfl<|ai rfl<|ac<|And.intro (bZ (by(simp only[lxC,lxN,lxA,lxM,lxS,List.length_replicate];decide)))<|aM ?_
 exact⟨_,_,rfl,by exact aj rfl rfl,by(apply ad;apply aj;simp only[lxS,lxA,lxC,lxN,lxY,lxZ,Nat.reduceAdd];simp only[bS,bT,Int.reduceToNat,lxg,lxh]),fun i o h=>ad (ad (q2 i o h))⟩
end
section
variable {G:Gd} {D:Ad} {gt bt:List (Str×AV)} {σ σ' σ₁ σ₂:List AO} {C:Cx} {lv:List (Str×AV)}
structure MI where
 m:Nat
 me:Nat
 r:Nat
 o:Nat
 i:Nat
 k:Nat
structure MSt where
 base:Int
 size:Int
 mem:List UInt8
 regs:List Int
 pc:Int
 out:List UInt8
 inp:List UInt8
 taken:Int
 steps:Int
 status:Int
 done:Bool
noncomputable abbrev BK (I:MI) (S:MSt):List (Str×AV):=[("base",.int S.base),("size",.int S.size),("memory",.dyn I.me),("registers",.dyn I.r),("pc",.int S.pc),("output",.dyn I.o),("input",.dyn I.i),("taken",.int S.taken),("steps",.int S.steps),("status",.int S.status),("is_done",.bool S.done),("known",.dyn I.k)]
def KnownAt (σ:List AO) (k:Nat):Prop:=∃es,σ[k]? = some (.idict es)∧(es=[]∨∃T j,es=[(115,.dyn T)]∧σ[T]? = some (.tuple [.str "ecall",.dyn j]))
structure Mach (D:Ad) (σ:List AO) (I:MI) (S:MSt):Prop where
 m:σ[I.m]? = some (.inst D.mach (BK I S))
 me:σ[I.me]? = some (.barr S.mem)
 r:σ[I.r]? = some (.list (S.regs.map .int))
 o:σ[I.o]? = some (.barr S.out)
 i:σ[I.i]? = some (.barr S.inp)
 k:KnownAt σ I.k
 r32:S.regs.length=32
 len:(S.mem.length:Int)=S.size
 bM:S.mem.length≤1000000
 bO:S.out.length≤1000000
 bI:S.inp.length≤1000000
 oi:I.o≠I.i
 mo:I.me≠I.o
 mi:I.me≠I.i
noncomputable abbrev MI.all (I:MI):List Nat:=[I.m,I.me,I.r,I.o,I.i,I.k]
structure Gl (gt bt:List (Str×AV)) (D:Ad):Prop where
 exc:bt.lookup (Str.ofString "Exception")=some (.type "Exception")
 int:bt.lookup (Str.ofString "int")=some (.type "int")
 bytes:bt.lookup (Str.ofString "bytes")=some (.type "bytes")
 barr:bt.lookup (Str.ofString "bytearray")=some (.type "bytearray")
 len:bt.lookup (Str.ofString "len")=some (.builtin "len")
 min:bt.lookup (Str.ofString "min")=some (.builtin "min")
 max:bt.lookup (Str.ofString "max")=some (.builtin "max")
 range:bt.lookup (Str.ofString "range")=some (.type "range")
 trap:gt.lookup (Str.ofString "Trap")=some (.base D.trap)
 mach:gt.lookup (Str.ofString "Machine")=some (.base D.mach)
 image:gt.lookup (Str.ofString "Image")=some (.base D.image)
 mask:gt.lookup (Str.ofString "WORD_MASK")=some (.int 4294967295)
 sp:gt.lookup (Str.ofString "SP")=some (.int 2)
 a0:gt.lookup (Str.ofString "A0")=some (.int 10)
 a7:gt.lookup (Str.ofString "A7")=some (.int 17)
 exit:gt.lookup (Str.ofString "EXIT")=some (.int 93)
 put:gt.lookup (Str.ofString "PUT")=some (.int 1)
 get:gt.lookup (Str.ofString "GET")=some (.int 2)
theorem KeptBut.of (h:Keep σ σ') (is:List Nat):KeptBut is σ σ':=fun i o _ e=>h i o e
theorem KeptBut.trans (h1:KeptBut is σ σ₁) (h2:KeptBut js σ₁ σ₂) (e1:∀i∈is,i∈ks) (e2:∀i∈js,i∈ks):KeptBut ks σ σ₂:=fun i o hi e=>h2 i o (fun q=>hi (e2 i q)) (h1 i o (fun q=>hi (e1 i q)) e)
theorem Keep.trans (h1:Keep σ σ₁) (h2:Keep σ₁ σ₂):Keep σ σ₂:=fun i o e=>h2 i o (h1 i o e)
theorem KeptBut.refl (is:List Nat):KeptBut is σ σ:=fun _ _ _ e=>e
theorem KeptBut.app (h:KeptBut is σ σ₁):KeptBut is σ (σ₁++l):=fun i o hi e=>ad (h i o hi e)
theorem KeptBut.set (hi:i∈is) (h:KeptBut is σ σ₁):KeptBut is σ (σ₁.set i a):=fun j o hj e=>ah (fun q=>hj (q ▸ hi)) (h j o hj e)
theorem KeptBut.keep (h:KeptBut is σ σ₁) (h2:Keep σ₁ σ₂):KeptBut is σ σ₂:=fun j o hj e=>h2 _ _ (h j o hj e)
theorem KnownAt.keep (K:KnownAt σ k) (h:Keep σ σ'):KnownAt σ' k:=by
 (refine aF K fun es e1 e2=>?_;clear K)
 refine⟨es,h _ _ e1,?_⟩
 rcases e2 with e2 | ⟨T,j,e2,e3⟩
 ·exact .inl e2
 ·exact .inr ⟨T,j,e2,h _ _ e3⟩
theorem Mach.keep (M:Mach D σ I S) (h:Keep σ σ'):Mach D σ' I S :=
 { M with m:=h _ _ M.m,me:=h _ _ M.me,r:=h _ _ M.r,o:=h _ _ M.o,i:=h _ _ M.i,k:=M.k.keep h }
theorem Mach.mOff (M:Mach D σ I S) {o:AO} (h:σ[n]? = some o) (c:∀fs,o ≠ .inst D.mach fs) (c1:∀b,o ≠ .barr b) (c2:∀xs:List Int,o ≠ .list (xs.map .int)) (c3:∀es,o ≠ .idict es):n ∉ I.all:=fun q=>by
 simp only[MI.all,lxm,lxn,or_false] at q
 (refine aF (M.k) fun es e1 _=>?_)
 rcases q with rfl | rfl | rfl | rfl | rfl | rfl
 ·rw[M.m] at h;cases h;exact c _ rfl
 ·rw[M.me] at h;cases h;exact c1 _ rfl
 ·rw[M.r] at h;cases h;exact c2 _ rfl
 ·rw[M.o] at h;cases h;exact c1 _ rfl
 ·rw[M.i] at h;cases h;exact c1 _ rfl
 ·rw[e1] at h;cases h;exact c3 _ rfl
theorem aO {i j:Nat} (h1:σ[i]? = some a) (h2:σ[j]? = some b) (h:a≠b):i≠j:=fun q=>by subst q;rw[h1] at h2;cases h2;exact h rfl
structure Mach.Ne (I:MI):Prop where
 a1:I.m≠I.me
 a2:I.m≠I.r
 a3:I.m≠I.o
 a4:I.m≠I.i
 a5:I.m≠I.k
 b1:I.me≠I.r
 b2:I.me≠I.o
 b3:I.me≠I.i
 b4:I.me≠I.k
 c1:I.r≠I.o
 c2:I.r≠I.i
 c3:I.r≠I.k
 d1:I.o≠I.i
 d2:I.o≠I.k
 e1:I.i≠I.k
theorem Mach.ne (M:Mach D σ I S):Mach.Ne I:=by
 (refine aF (M.k) fun es e1 _=>?_)
 exact⟨aO M.m M.me (by simp),aO M.m M.r (by simp),aO M.m M.o (by simp),aO M.m M.i (by simp),aO M.m e1 (by simp),aO M.me M.r (by simp),M.mo,M.mi,aO M.me e1 (by simp),
  aO M.r M.o (by simp),aO M.r M.i (by simp),aO M.r e1 (by simp),M.oi,aO M.o e1 (by simp),aO M.i e1 (by simp)⟩
noncomputable def d0 (S:MSt) (a:Int):Int:=By.le (cut S.mem (some (a - S.base)) (some (a - S.base+4)))
def inMem (S:MSt) (a n:Int):Prop:=S.base≤a∧a - S.base+n≤S.size
theorem wm {K:AV→List AV→Prop} (W:Wd G D gt bt) (hi:σ[i]? = some (.inst D.mach fs)) (hsh:fs.lookup (Str.ofString "load")=none) (h:K (.base (D.m 3)) [.dyn i]):pC G C σ (.dyn i) (Str.ofString "load") K:=eu 3 W hi hsh rfl (by decide) h
theorem zR {K:AV→List AV→Prop} (W:Wd G D gt bt) (hi:σ[i]? = some (.inst D.mach fs)) (hsh:fs.lookup (Str.ofString "place_for")=none) (h:K (.base (D.m 2)) [.dyn i]):pC G C σ (.dyn i) (Str.ofString "place_for") K:=eu 2 W hi hsh rfl (by decide) h
theorem zP {K:AV→List AV→Prop} (W:Wd G D gt bt) (hi:σ[i]? = some (.inst D.mach fs)) (hsh:fs.lookup (Str.ofString "store")=none) (h:K (.base (D.m 4)) [.dyn i]):pC G C σ (.dyn i) (Str.ofString "store") K:=eu 4 W hi hsh rfl (by decide) h
theorem zS {K:AV→List AV→Prop} (W:Wd G D gt bt) (hi:σ[i]? = some (.inst D.mach fs)) (hsh:fs.lookup (Str.ofString "octets_at")=none) (h:K (.base (D.m 5)) [.dyn i]):pC G C σ (.dyn i) (Str.ofString "octets_at") K:=eu 5 W hi hsh rfl (by decide) h
theorem lJ {K:AV→List AV→Prop} (W:Wd G D gt bt) (hi:σ[i]? = some (.inst D.mach fs)) (hsh:fs.lookup (Str.ofString "put")=none) (h:K (.base (D.m 6)) [.dyn i]):pC G C σ (.dyn i) (Str.ofString "put") K:=eu 6 W hi hsh rfl (by decide) h
theorem zV {K:AV→List AV→Prop} (W:Wd G D gt bt) (hi:σ[i]? = some (.inst D.mach fs)) (hsh:fs.lookup (Str.ofString "instruction_at")=none) (h:K (.base (D.m 7)) [.dyn i]):pC G C σ (.dyn i) (Str.ofString "instruction_at") K:=eu 7 W hi hsh rfl (by decide) h
theorem zU {K:AV→List AV→Prop} (W:Wd G D gt bt) (hi:σ[i]? = some (.inst D.mach fs)) (hsh:fs.lookup (Str.ofString "jump")=none) (h:K (.base (D.m 8)) [.dyn i]):pC G C σ (.dyn i) (Str.ofString "jump") K:=eu 8 W hi hsh rfl (by decide) h
theorem oj {K:AV→List AV→Prop} (W:Wd G D gt bt) (hi:σ[i]? = some (.inst D.mach fs)) (hsh:fs.lookup (Str.ofString "step")=none) (h:K (.base (D.m 9)) [.dyn i]):pC G C σ (.dyn i) (Str.ofString "step") K:=eu 9 W hi hsh rfl (by decide) h
theorem zT {K:AV→List AV→Prop} (W:Wd G D gt bt) (hi:σ[i]? = some (.inst D.mach fs)) (hsh:fs.lookup (Str.ofString "lead")=none) (h:K (.base (D.m 11)) [.dyn i]):pC G C σ (.dyn i) (Str.ofString "lead") K:=eu 11 W hi hsh rfl (by decide) h
theorem qP {K:AV→List AV→Prop} (W:Wd G D gt bt) (hi:σ[i]? = some (.inst D.mach fs)) (hsh:fs.lookup (Str.ofString "call_out")=none) (h:K (.base (D.m 12)) [.dyn i]):pC G C σ (.dyn i) (Str.ofString "call_out") K:=eu 12 W hi hsh rfl (by decide) h
theorem zQ {K:AV→List AV→Prop} (W:Wd G D gt bt) (hi:σ[i]? = some (.inst D.mach fs)) (hsh:fs.lookup (Str.ofString "run")=none) (h:K (.base (D.m 13)) [.dyn i]):pC G C σ (.dyn i) (Str.ofString "run") K:=eu 13 W hi hsh rfl (by decide) h
theorem tI {K:AV→List AO→Prop} (hi:σ[i]? = some (.barr b)) (h0:0≤k) (h1:k < 256) (hz:b.length < 16777216) (k':K .none (σ.set i (.barr (b++[k.toNat.toUInt8])))):kd G C σ (.builtin "bytearray.append") [.dyn i,.int k] K:=oc (fun _=>on hi h0 h1 hz) k'
theorem Mach.known (M:Mach D σ I S) (h:σ[T]? = some (.tuple [.str "ecall",.dyn j])):Mach D (σ.set I.k (.idict [(115,.dyn T)])) I S:=by
 (refine aF (M.k) fun es e1 _=>?_)
 have N:=M.ne
 exact { M with m:=ah N.a5.symm M.m,me:=ah N.b4.symm M.me,r:=ah N.c3.symm M.r,o:=ah N.d2.symm M.o,i:=ah N.e1.symm M.i,k:=⟨_,aU e1,.inr ⟨T,j,rfl,ah (aO e1 h (by simp)) h⟩⟩ }
theorem KnownAt.set (K:KnownAt σ k) (h:σ[n]? = some b) (hn:n≠k) (hb:∀xs,b ≠ .tuple xs):KnownAt (σ.set n a) k:=by
 (refine aF K fun es e1 e2=>?_;clear K)
 refine⟨es,ah hn e1,?_⟩
 rcases e2 with e2 | ⟨T,j,e2,e3⟩
 ·exact .inl e2
 ·exact .inr ⟨T,j,e2,ah (aO h e3 (fun q=>hb _ q)) e3⟩
theorem Mach.setM (M:Mach D σ I S) (e:fs=BK I S') (e1:S'.mem=S.mem) (e2:S'.regs=S.regs) (e3:S'.out=S.out) (e4:S'.inp=S.inp) (e5:S'.size=S.size):Mach D (σ.set I.m (.inst D.mach fs)) I S':=by
 have N:=M.ne
 subst e
 exact⟨aU M.m,e1 ▸ ah N.a1 M.me,e2 ▸ ah N.a2 M.r,e3 ▸ ah N.a3 M.o,e4 ▸ ah N.a4 M.i,M.k.set M.m N.a5 (by simp),e2 ▸ M.r32,by rw[e1,e5];exact M.len,e1 ▸ M.bM,e3 ▸ M.bO,e4 ▸ M.bI,M.oi,M.mo,M.mi⟩
theorem Mach.setR (M:Mach D σ I S) (h:regs.length=32):Mach D (σ.set I.r (.list (regs.map .int))) I { S with regs:=regs }:=by
 have N:=M.ne
 exact⟨ah N.a2.symm M.m,ah N.b1.symm M.me,aU M.r,ah N.c1 M.o,ah N.c2 M.i,M.k.set M.r N.c3 (by simp),h,M.len,M.bM,M.bO,M.bI,M.oi,M.mo,M.mi⟩
theorem Mach.setO (M:Mach D σ I S) (h:b.length≤1000000):Mach D (σ.set I.o (.barr b)) I { S with out:=b }:=by
 have N:=M.ne
 exact⟨ah N.a3.symm M.m,ah N.b2.symm M.me,ah N.c1.symm M.r,aU M.o,ah N.d1 M.i,M.k.set M.o N.d2 (by simp),M.r32,M.len,M.bM,h,M.bI,M.oi,M.mo,M.mi⟩
theorem Mach.setI (M:Mach D σ I S) (h:b.length≤1000000):Mach D (σ.set I.i (.barr b)) I { S with inp:=b }:=by
 have N:=M.ne
 exact⟨ah N.a4.symm M.m,ah N.b3.symm M.me,ah N.c2.symm M.r,ah N.d1.symm M.o,aU M.i,M.k.set M.i N.e1 (by simp),M.r32,M.len,M.bM,M.bO,h,M.oi,M.mo,M.mi⟩
theorem Mach.setMem (M:Mach D σ I S) (h:b.length=S.mem.length):Mach D (σ.set I.me (.barr b)) I { S with mem:=b }:=by
 have N:=M.ne
 exact⟨ah N.a1.symm M.m,aU M.me,ah N.b1 M.r,ah N.b2 M.o,ah N.b3 M.i,M.k.set M.me N.b4 (by simp),M.r32,by rw[← M.len,h],by show b.length≤_;rw[h];exact M.bM,M.bO,M.bI,M.oi,M.mo,M.mi⟩
end
section
set_option maxHeartbeats 4000000
variable {G:Gd} {D:Ad} {Z:DAd} {gt bt:List (Str×AV)} {σ:List AO} {C:Cx} {lv:List (Str×AV)} {I:MI} {S:MSt}
noncomputable abbrev CN:List Str:=["self", "address", "word", "found"]
noncomputable abbrev CO:List Str:=["decode", "Trap"]
theorem uM (W:Wd G D gt bt) (L:Gl gt bt D) (Y:Dec G Z gt) (M:Mach D σ I S) (hw:a % 4=0→inMem S a 4→d0 S a=115∨d0 S a=0) :
  CtP G 6 σ (.base (D.m 7)) [.dyn I.m,.int a] (fun r σ'=>(a % 4=0∧inMem S a 4∧d0 S a=115)∧(∃T j,r = .dyn T∧σ'[T]? = some (.tuple [.str "ecall",.dyn j]))∧Mach D σ' I S∧KeptBut [I.k] σ σ')
   (fun i σ'=>(∃w,dH D σ' i w S.pc∧((w = "align" ∧ a % 4≠0)∨(w = "memory" ∧ a % 4=0∧¬inMem S a 4)∨(w = "illegal" ∧ a % 4=0∧inMem S a 4∧d0 S a=0)))∧Mach D σ' I S∧KeptBut [I.k] σ σ'):=by
 (refine bC (W.machD 7 _ rfl) fun pm cd DD=>?_)
 (refine bC (Y.decodeD) fun pm' cd' DN=>?_)
 have B:=W.B
 have hs:=W.sys
 have g1:=Y.gD
 have g2:=L.trap
 have g3:=L.exc
 have hm:=M.m
 have hme:=M.me
 have n1:=M.ne.a5.symm
 refine ch ["self", "address"] CN CO ["word", "found"] 5 DD (by kernel_rfl) rfl (iE fun _ _=>rfl) rfl (by(simp only[lxp,lxq,lxr,lxs,lxt,bV,bU];rfl)) ?_
 (refine b5 rfl<|bq<|aa rfl ?_;apply wm;assumption;assumption;exact rfl;refine ai rfl<|az<|ac ?_;refine⟨ok fun _=>by(apply di;assumption;exact rfl),?_⟩;dsimp only[bU,bV])
 have bM:=M.bM
 refine bj (CtP.imp (rg (n:=4) W L.exc L.int L.trap hm (by simp only[put,aN,List.lookup_cons,bG,String.reduceBEq,String.reduceEq,reduceIte,List.lookup_nil]) (by simp only[put,aN,List.lookup_cons,bG,String.reduceBEq,String.reduceEq,reduceIte,List.lookup_nil]) rfl rfl rfl rfl hme (q1 0 1000000 0 16777216 bM rfl) M.len (by decide) (by decide)) (fun r σ' qq=>?_) (fun i σ' qx=>?_)) rfl (by decide)
 ·(refine dA qq fun q1 q2 q3=>?_;clear qq)
  subst q2
  have M':=M.keep q3
  have hm':=M'.m
  (refine aF (M'.k) fun es k1 k2=>?_)
  have hwa:By.le (cut S.mem (some (a - S.base)) (some (a - S.base+4)))=d0 S a:=rfl
  rw[hwa]
  rcases hw q1.1 q1.2 with c | c<;>rw[c]
  ·rcases k2 with rfl | ⟨T,j,rfl,k3⟩
   ·refine aw rfl<|ap<|ay rfl<|aa rfl<|cN rfl ‹_› ‹_› rfl<|gE ‹_› ‹_›<|aJ<|aR rfl<|b5 rfl<|bF rfl ‹_› rfl ‹_›<|ai rfl<|ac<|aD ‹_› ?_
    refine cp (qk W Y) rfl rfl fun r σ'' qq=>?_
    (refine kn qq fun T j r1 r2 r3 r4=>?_;clear qq)
    subst r1
    have hm'':=r4 _ _ hm'
    have k1':=r4 _ _ k1
    (refine aw rfl<|ap<|ay rfl<|aa rfl<|dO<|eL (fun _=>sT)<|au rfl<|aI<|aA rfl<|aa rfl<|ck<|cN rfl ‹_› ‹_› rfl<|aa rfl<|wl ‹_› (by decide)<|ap<|aI<|bE<|bg<|aH<|aa rfl ?_;apply aV;assumption;(apply ah;assumption;assumption);exact rfl;refine aa rfl<|pJ (aU ‹_›) zb (fun _ _=>by with_unfolding_all rfl)<|aM ?_)
    exact⟨⟨q1.1,q1.2,rfl⟩,⟨T,j,rfl,ah (aO k1' r2 (by simp)) r2⟩,(M'.keep r4).known r2,.set (by simp) (.keep (.of q3 _) r4)⟩
   ·refine aw rfl<|ap<|ay rfl<|aa rfl<|cN rfl ‹_› ‹_› rfl<|gE ‹_› ‹_›<|aJ<|au rfl<|aI<|bE<|bg<|cN rfl ‹_› ‹_› rfl<|aa rfl<|pJ ‹_› (by simp only[lk,st,List.find?_cons,List.find?_nil,Option.map_some,Option.map_none,decide_true,decide_false];rfl) (fun _ _=>by with_unfolding_all rfl)<|aM ?_
    exact⟨⟨q1.1,q1.2,rfl⟩,⟨T,j,rfl,k3⟩,M',.of q3 _⟩
  ·rcases k2 with rfl | ⟨T,j,rfl,k3⟩
   ·refine aw rfl<|ap<|ay rfl<|aa rfl<|cN rfl ‹_› ‹_› rfl<|gE ‹_› ‹_›<|aJ<|aR rfl<|b5 rfl<|bF rfl ‹_› rfl ‹_›<|ai rfl<|ac<|aD ‹_› ?_
    refine cp (pf W Y) rfl rfl fun r σ'' qq=>?_
    (refine bD qq fun r1 r2=>?_;clear qq)
    subst r1
    have hm'':=r2 _ _ hm'
    (refine aw rfl<|ap<|ay rfl<|aa rfl<|dO<|eL (fun _=>lu) ?_;refine aR ?_ ?_;rfl;refine aW<|cD rfl<|b7 ?_;apply ax;assumption;exact rfl;assumption;refine bx<|af<|aH<|aa rfl ?_;apply aV;assumption;assumption;exact rfl;apply ac;refine⟨ok fun _=>by(apply dc;assumption),?_⟩;apply dQ;assumption;assumption;exact rfl;decide)
    exact⟨_,_,_,_,rfl,W.trapC,dh.1,⟨_,dh.2.1,.inr (.inr ⟨rfl,q1.1,q1.2,rfl⟩)⟩,(M'.keep r2).keep dh.2.2,.keep (.keep (.of q3 _) r2) dh.2.2⟩
   ·refine aw rfl<|ap<|ay rfl<|aa rfl<|cN rfl ‹_› ‹_› rfl<|gE ‹_› ‹_›<|aJ<|aR rfl<|b5 rfl<|bF rfl ‹_› rfl ‹_›<|ai rfl<|ac<|aD ‹_› ?_
    refine cp (pf W Y) rfl rfl fun r σ'' qq=>?_
    (refine bD qq fun r1 r2=>?_;clear qq)
    subst r1
    have hm'':=r2 _ _ hm'
    (refine aw rfl<|ap<|ay rfl<|aa rfl<|dO<|eL (fun _=>lu) ?_;refine aR ?_ ?_;rfl;refine aW<|cD rfl<|b7 ?_;apply ax;assumption;exact rfl;assumption;refine bx<|af<|aH<|aa rfl ?_;apply aV;assumption;assumption;exact rfl;apply ac;refine⟨ok fun _=>by(apply dc;assumption),?_⟩;apply dQ;assumption;assumption;exact rfl;decide)
    exact⟨_,_,_,_,rfl,W.trapC,dh.1,⟨_,dh.2.1,.inr (.inr ⟨rfl,q1.1,q1.2,rfl⟩)⟩,(M'.keep r2).keep dh.2.2,.keep (.keep (.of q3 _) r2) dh.2.2⟩
 ·(refine bD qx fun zz9 q3=>?_;clear qx;refine aF zz9 fun w q1 q2=>?_;clear zz9)
  exact⟨⟨w,q1,by unfold inMem;rcases q2 with q2 | q2;exact .inl q2;exact .inr (.inl q2)⟩,M.keep q3,.of q3 _⟩
end
section
variable {G:Gd} {D:Ad} {gt bt:List (Str×AV)} {σ σ' σ₁ σ₂:List AO} {C:Cx} {lv:List (Str×AV)}
noncomputable def w8 (v:Int):Int:=if 2147483648≤v then v - 4294967296 else v
theorem rX (h0:0≤v) (h1:v < 4294967296):(Builtin.bitAnd v 2147483648 != 0)=decide (2147483648≤v):=by
 have e:Builtin.bitAnd v 2147483648=((v.toNat &&& 2 ^ 31:Nat):Int):=by
  unfold Builtin.bitAnd
  rw[decide_eq_true h0,decide_eq_true (show (0:Int)≤2147483648 by decide)]
  rfl
 have hv:v.toNat < 4294967296:=by lia
 have key:(v.toNat &&& 2 ^ 31=0)↔¬ (v.toNat / 2 ^ 31 % 2=1):=by
  have tb:v.toNat.testBit 31=decide (v.toNat / 2 ^ 31 % 2=1):=Nat.testBit_eq_decide_div_mod_eq
  constructor
  ·intro h q
   have h2:(v.toNat &&& 2 ^ 31).testBit 31=true:=by rw[Nat.testBit_and,Nat.testBit_two_pow,tb,decide_eq_true q];rfl
   rw[h] at h2;simp at h2
  ·intro h
   refine Nat.eq_of_testBit_eq fun i=>?_
   rw[Nat.testBit_and,Nat.testBit_two_pow,Nat.zero_testBit]
   by_cases hi:31=i
   ·subst hi;rw[tb,decide_eq_false h];rfl
   ·rw[decide_eq_false hi,Bool.and_false]
 rw[e]
 by_cases c:2147483648≤v
 ·have:¬ (v.toNat &&& 2 ^ 31=0):=fun q=>key.mp q (by lia)
  rw[decide_eq_true c]
  simp only[bne_iff_ne,ne_eq]
  lia
 ·have:v.toNat &&& 2 ^ 31=0:=key.mpr (by lia)
  rw[decide_eq_false c,this];rfl
noncomputable def dB (S:MSt):Option MSt :=
 if S.regs.getD 17 0=93 then some { S with done:=true,status:=w8 (S.regs.getD 10 0) }
 else if S.regs.getD 17 0=1 then some { S with out:=S.out++[(S.regs.getD 10 0 % 256).toNat.toUInt8] }
 else if S.regs.getD 17 0=2 then some { S with regs:=putReg S.regs 10 (if S.taken < S.inp.length then ((S.inp.getD S.taken.toNat 0).toNat:Int) else -1),taken:=min (S.taken+1) S.inp.length }
 else none
theorem y4:(putReg regs n v).length=regs.length:=by unfold putReg;split<;>simp
theorem jF {regs:List Int} (h:regs.length=32) (k:Nat) (hk:k < 32):(regs.map AV.int)[k]? = some (.int (regs.getD k 0)):=by
 rw[List.getElem?_map,List.getD_eq_getElem?_getD,List.getElem?_eq_getElem (q2 1 32 32 0 1 0 hk (Nat.le_of_eq h.symm) rfl)];rfl
theorem y6 {b:List UInt8} {t:Int} (h0:0≤t) (h:t < b.length):b[t.toNat]? = some (b.getD t.toNat 0):=by
 rw[List.getD_eq_getElem?_getD,List.getElem?_eq_getElem (Int.ofNat_lt.mp (nC (Int.le_of_eq (Int.toNat_of_nonneg h0)) h))];rfl
theorem Bz {K:AV→List AO→Prop} (ct:CtP G 1 σ (.base a) [.int v] (fun r σ'=>r = .int (w8 v)∧σ'=σ) fun _ _=>False) (hn:C.n=some m) (hm:1≤m) (k:K (.int (w8 v)) σ):kd G C σ (.base a) [.int v] K :=
 jV (CtP.imp ct (fun r σ' ⟨q1,q2⟩=>by subst q1 q2;exact k) fun _ _ h=>h) hn hm
end
section
set_option maxHeartbeats 4000000
variable {G:Gd} {D:Ad} {Z:DAd} {gt bt:List (Str×AV)} {σ:List AO} {C:Cx} {lv:List (Str×AV)} {I:MI} {S:MSt}
noncomputable abbrev Cc:List Str:=["value"]
noncomputable abbrev Cf:List Str:=["SIGN"]
theorem rW (W:Wd G D gt bt) (Y:Dec G Z gt) (h0:0≤v) (h1:v < 4294967296):CtP G 1 σ (.base Z.signed) [.int v] (fun r σ'=>r = .int (w8 v)∧σ'=σ) (fun _ _=>False):=by
 (refine bC (Y.signedD) fun pm cd DD=>?_)
 have B:=W.B
 have g1:=Y.gSG
 have e:=rX h0 h1
 refine ch ["value"] Cc Cf [] 0 DD (by kernel_rfl) rfl (jH fun _=>rfl) rfl (by(simp only[lxp,lxq,lxr,lxs,lxt,bV,bU];rfl)) ?_
 by_cases c:2147483648≤v
 ·rw[decide_eq_true c] at e
  (refine bE<|eM<|cr<|aX rfl<|ax ‹_› rfl ‹_›<|o2 (fun _=>gu) ?_;(with_reducible refine ot (fun _=>rq) ?_);refine aR ‹_›<|aX rfl<|i2 (fun _=>cC)<|aM ?_)
  exact⟨by show AV.int _=_;unfold w8;rw[if_pos c],rfl⟩
 ·rw[decide_eq_false c] at e
  (refine bE<|eM<|cr<|aX rfl<|ax ‹_› rfl ‹_›<|o2 (fun _=>gu) ?_;(with_reducible refine ot (fun _=>rq) ?_);refine au ‹_›<|aa rfl<|aM ?_)
  exact⟨by show AV.int _=_;unfold w8;rw[if_neg c],rfl⟩
noncomputable abbrev CX:List Str:=["self", "asked"]
noncomputable abbrev CY:List Str:=["A7", "EXIT", "signed_word", "A0", "PUT", "GET", "len", "min", "Trap"]
theorem ia (W:Wd G D gt bt) (L:Gl gt bt D) (Y:Dec G Z gt) (M:Mach D σ I S) (ht:0≤S.taken) (ho:S.out.length+1≤1000000) (hv:0≤S.regs.getD 10 0∧S.regs.getD 10 0 < 4294967296) :
  CtP G 3 σ (.base (D.m 12)) [.dyn I.m] (fun r σ'=>r = .none∧∃S',dB S=some S'∧Mach D σ' I S'∧KeptBut I.all σ σ') (fun i σ'=>dB S=none∧dH D σ' i "ecall" S.pc∧Mach D σ' I S∧KeptBut I.all σ σ'):=by
 (refine bC (W.machD 12 _ rfl) fun pm cd DD=>?_)
 (refine bC (Y.signedD) fun pm' cd' DN=>?_)
 have B:=W.B
 have hs:=W.sys
 have g1:=L.a7
 have g2:=L.exit
 have g3:=Y.gSW
 have g4:=L.a0
 have g5:=L.put
 have g6:=L.get
 have g7:=L.len
 have g8:=L.min
 have g9:=L.trap
 have g10:=L.exc
 have hm:=M.m
 have hr:=M.r
 have ho':=M.o
 have hi:=M.i
 have r32:=M.r32
 have N:=M.ne
 have n1:=N.a2
 have n2:=N.a2.symm
 have n3:=N.a3
 have n4:=N.a4
 have n5:=N.c2
 have n6:=N.c2.symm
 have bI:=M.bI
 have e17:(S.regs.map AV.int)[(17:Int).toNat]? = some (.int (S.regs.getD 17 0)):=jF r32 17 (by decide)
 have e10:(S.regs.map AV.int)[(10:Int).toNat]? = some (.int (S.regs.getD 10 0)):=jF r32 10 (by decide)
 refine ch ["self"] CX CY ["asked"] 2 DD (by kernel_rfl) rfl (jH fun _=>rfl) rfl (by(simp only[lxp,lxq,lxr,lxs,lxt,bV,bU];rfl)) ?_
 generalize ea:S.regs.getD 17 0=asked at e17
 by_cases c1:asked=93
 ·(refine aA rfl<|bg<|cN rfl ‹_› ‹_› rfl<|ax ‹_› rfl ‹_›<|bu ‹_› (by decide) (by decide) ‹_› (fun _ _=>by with_unfolding_all rfl)<|aw rfl<|ap<|ay rfl<|aa rfl<|ax ‹_› rfl ‹_›<|eL (fun _=>bL)<|aR (cg ‹_›)<|aA rfl<|et<|bJ<|aa rfl<|cT ‹_› ‹_› rfl<|ap<|b5 rfl<|bF rfl ‹_› rfl ‹_›<|af<|bg<|cN rfl ‹_› (aU ‹_›) rfl<|ax ‹_› rfl ‹_› ?_;apply bu;(apply ah;assumption;assumption);decide;decide;assumption;(intro _ _;with_unfolding_all rfl);refine ac<|aD ‹_› ?_)
  refine BG (Bz (rW W Y hv.1 hv.2) rfl (by decide) ?_)
  refine bJ<|aa rfl<|cT ‹_› (aU ‹_›) rfl<|ap<|aI<|bH ?_
  refine⟨rfl,{ S with done:=true,status:=w8 (S.regs.getD 10 0) },by unfold dB;rw[if_pos (ea.trans c1)],?_,by(apply KeptBut.set;simp only[MI.all,lxm,eq_self,true_or,or_true];apply KeptBut.set;simp only[MI.all,lxm,eq_self,true_or,or_true];(with_reducible exact KeptBut.refl _))⟩
  rw[List.set_set]
  exact M.setM (by exact rfl) rfl rfl rfl rfl rfl
 ·by_cases c2:asked=1
  ·(refine aA rfl<|bg<|cN rfl ‹_› ‹_› rfl<|ax ‹_› rfl ‹_›<|bu ‹_› (by decide) (by decide) ‹_› (fun _ _=>by with_unfolding_all rfl)<|aw rfl<|ap<|ay rfl<|aa rfl<|ax ‹_› rfl ‹_›<|eL (fun _=>bL)<|au (av ‹_›)<|ay rfl<|aa rfl<|ax ‹_› rfl ‹_›<|eL (fun _=>bL)<|aR (cg ‹_›)<|cY rfl<|bq<|cN rfl ‹_› ‹_› rfl ?_;(with_reducible refine og (fun _=>n8 (by assumption)) ?_);refine af<|aG<|bg<|cN rfl ‹_› ‹_› rfl<|ax ‹_› rfl ‹_›<|bu ‹_› (by decide) (by decide) ‹_› (fun _ _=>by with_unfolding_all rfl)<|i2 (fun _=>vu)<|ac<|aB ?_;dsimp only[bU,bV];refine BG<|tI ‹_› (Int.emod_nonneg _ (by decide)) (Int.emod_lt_of_pos _ (by decide)) (q1 1 1000000 1 16777216 ho rfl)<|ap<|aI<|aI<|bH ?_)
   exact⟨rfl,{ S with out:=S.out++[(S.regs.getD 10 0 % 256).toNat.toUInt8] },by unfold dB;rw[if_neg (fun q=>c1 (ea.symm.trans q)),if_pos (ea.trans c2)],M.setO (by simp;exact q1 1 1000000 0 999999 ho rfl),by(apply KeptBut.set;simp only[MI.all,lxm,eq_self,true_or,or_true];(with_reducible exact KeptBut.refl _))⟩
  ·by_cases c3:asked=2
   ·by_cases c4:S.taken < S.inp.length
    ·have e11:=y6 ht c4
     (refine aA rfl<|bg<|aH<|aa rfl ?_;apply aV;assumption;assumption;exact rfl;apply ax;assumption;exact rfl;assumption;apply bu;assumption;decide;decide;assumption;(intro _ _;with_unfolding_all rfl);refine aw rfl<|ap<|ay rfl<|aa rfl ?_;apply ax;assumption;exact rfl;assumption;refine eL (fun _=>bL) ?_;refine au ?_ ?_;(apply av;assumption);refine ay rfl<|aa rfl ?_;apply ax;assumption;exact rfl;assumption;refine eL (fun _=>bL) ?_;refine au ?_ ?_;(apply av;assumption);refine ay rfl<|aa rfl ?_;apply ax;assumption;exact rfl;assumption;refine eL (fun _=>bL) ?_;refine aR ?_ ?_;(apply cg;assumption);refine cY rfl<|bq<|aa rfl ?_;apply lJ;assumption;assumption;exact rfl;refine af ?_;apply ax;assumption;exact rfl;assumption;refine af<|eM<|aY<|aH<|aa rfl ?_;apply aV;assumption;assumption;exact rfl;refine b7 ?_;apply eq;assumption;exact rfl;assumption;refine af<|aH<|aa rfl ?_;apply aV;assumption;assumption;exact rfl;apply ac;refine⟨ok fun _=>by(exact dr),?_⟩;apply iC;assumption;exact q1 0 1000000 1 9223372036854775808 bI rfl;refine eL (fun _=>dN) ?_;refine aR ?_ ?_;(apply decide_eq_true;assumption);refine bg<|aH<|aa rfl ?_;apply aV;assumption;assumption;exact rfl;refine aH<|aa rfl ?_;apply aV;assumption;assumption;exact rfl;apply tG;assumption;assumption;exact Int.lt_of_lt_of_le c4 (Int.le_trans (Int.ofNat_le.mpr bI) (by decide));assumption;(intro _ _;with_unfolding_all rfl);apply ac;refine⟨ok fun _=>by(apply di;assumption;exact rfl),?_⟩;dsimp only[bU,bV])
     refine cp (kG W L.mask hm rfl hr (by decide) (by rw[r32];decide) r32) rfl rfl fun r σ' qq=>?_
     (refine bD qq fun q1 q2=>?_;clear qq)
     subst q1 q2
     (refine ap<|aA rfl<|cb rfl ‹_› rfl ‹_›<|af<|aG<|aH<|aa rfl ?_;apply aV;assumption;(apply ah;assumption;assumption);exact rfl;refine i2 (fun _=>bh)<|af<|cb rfl ‹_› rfl ‹_›<|af<|aH<|aa rfl ?_;apply aV;assumption;(apply ah;assumption;assumption);exact rfl;refine ac<|aB ?_;apply iC;(apply ah;assumption;assumption);exact q1 0 1000000 1 9223372036854775808 bI rfl;refine ac<|aB<|wn rfl<|bJ<|aa rfl ?_;apply cT;assumption;(apply ah;assumption;assumption);exact rfl;refine ap<|aI<|aI<|aI<|bH ?_)
     refine⟨rfl,_,by unfold dB;rw[if_neg (fun q=>c1 (ea.symm.trans q)),if_neg (fun q=>c2 (ea.symm.trans q)),if_pos (ea.trans c3),if_pos c4],?_,by(apply KeptBut.set;simp only[MI.all,lxm,eq_self,true_or,or_true];apply KeptBut.set;simp only[MI.all,lxm,eq_self,true_or,or_true];(with_reducible exact KeptBut.refl _))⟩
     exact(M.setR (y4.trans r32)).setM (by exact rfl) rfl rfl rfl rfl rfl
    ·(refine aA rfl<|bg<|aH<|aa rfl ?_;apply aV;assumption;assumption;exact rfl;apply ax;assumption;exact rfl;assumption;apply bu;assumption;decide;decide;assumption;(intro _ _;with_unfolding_all rfl);refine aw rfl<|ap<|ay rfl<|aa rfl ?_;apply ax;assumption;exact rfl;assumption;refine eL (fun _=>bL) ?_;refine au ?_ ?_;(apply av;assumption);refine ay rfl<|aa rfl ?_;apply ax;assumption;exact rfl;assumption;refine eL (fun _=>bL) ?_;refine au ?_ ?_;(apply av;assumption);refine ay rfl<|aa rfl ?_;apply ax;assumption;exact rfl;assumption;refine eL (fun _=>bL) ?_;refine aR ?_ ?_;(apply cg;assumption);refine cY rfl<|bq<|aa rfl ?_;apply lJ;assumption;assumption;exact rfl;refine af ?_;apply ax;assumption;exact rfl;assumption;refine af<|eM<|aY<|aH<|aa rfl ?_;apply aV;assumption;assumption;exact rfl;refine b7 ?_;apply eq;assumption;exact rfl;assumption;refine af<|aH<|aa rfl ?_;apply aV;assumption;assumption;exact rfl;apply ac;refine⟨ok fun _=>by(exact dr),?_⟩;apply iC;assumption;exact q1 0 1000000 1 9223372036854775808 bI rfl;refine eL (fun _=>dN) ?_;refine au ?_ ?_;(apply decide_eq_false;assumption);refine oa<|bf<|o1 (fun _=>vr)<|ac ?_;refine⟨ok fun _=>by(apply di;assumption;exact rfl),?_⟩;dsimp only[bU,bV])
     refine cp (kG W L.mask hm rfl hr (by decide) (by rw[r32];decide) r32) rfl rfl fun r σ' qq=>?_
     (refine bD qq fun q1 q2=>?_;clear qq)
     subst q1 q2
     (refine ap<|aA rfl<|cb rfl ‹_› rfl ‹_›<|af<|aG<|aH<|aa rfl ?_;apply aV;assumption;(apply ah;assumption;assumption);exact rfl;refine i2 (fun _=>bh)<|af<|cb rfl ‹_› rfl ‹_›<|af<|aH<|aa rfl ?_;apply aV;assumption;(apply ah;assumption;assumption);exact rfl;refine ac<|aB ?_;apply iC;(apply ah;assumption;assumption);exact q1 0 1000000 1 9223372036854775808 bI rfl;refine ac<|aB<|wn rfl<|bJ<|aa rfl ?_;apply cT;assumption;(apply ah;assumption;assumption);exact rfl;refine ap<|aI<|aI<|aI<|bH ?_)
     refine⟨rfl,_,by unfold dB;rw[if_neg (fun q=>c1 (ea.symm.trans q)),if_neg (fun q=>c2 (ea.symm.trans q)),if_pos (ea.trans c3),if_neg c4],?_,by(apply KeptBut.set;simp only[MI.all,lxm,eq_self,true_or,or_true];apply KeptBut.set;simp only[MI.all,lxm,eq_self,true_or,or_true];(with_reducible exact KeptBut.refl _))⟩
     exact(M.setR (y4.trans r32)).setM (by exact rfl) rfl rfl rfl rfl rfl
   ·(refine aA rfl<|bg<|aH<|aa rfl ?_;apply aV;assumption;assumption;exact rfl;apply ax;assumption;exact rfl;assumption;apply bu;assumption;decide;decide;assumption;(intro _ _;with_unfolding_all rfl);refine aw rfl<|ap<|ay rfl<|aa rfl ?_;apply ax;assumption;exact rfl;assumption;refine eL (fun _=>bL) ?_;refine au ?_ ?_;(apply av;assumption);refine ay rfl<|aa rfl ?_;apply ax;assumption;exact rfl;assumption;refine eL (fun _=>bL) ?_;refine au ?_ ?_;(apply av;assumption);refine ay rfl<|aa rfl ?_;apply ax;assumption;exact rfl;assumption;refine eL (fun _=>bL) ?_;refine au ?_ ?_;(apply av;assumption);refine aW<|cD rfl<|b7 ?_;apply ax;assumption;exact rfl;assumption;refine bx<|af<|aH<|aa rfl ?_;apply aV;assumption;assumption;exact rfl;apply ac;refine⟨ok fun _=>by(apply dc;assumption),?_⟩;apply dQ;assumption;assumption;exact rfl;decide)
    exact⟨_,_,_,_,rfl,W.trapC,dh.1,by unfold dB;rw[if_neg (fun q=>c1 (ea.symm.trans q)),if_neg (fun q=>c2 (ea.symm.trans q)),if_neg (fun q=>c3 (ea.symm.trans q))],dh.2.1,M.keep dh.2.2,.of dh.2.2 _⟩
end
section
set_option maxHeartbeats 4000000
variable {G:Gd} {D:Ad} {Z:DAd} {gt bt:List (Str×AV)} {σ:List AO} {C:Cx} {lv:List (Str×AV)} {I:MI} {S:MSt}
noncomputable abbrev CD:List Str:=["self", "name", "fields", "here"]
noncomputable abbrev CE:List Str:=["WORD_MASK"]
noncomputable def kS (S:MSt):Option MSt:=(dB S).map fun S'=>{ S' with pc:=(S.pc+4) % 4294967296 }
theorem iW (h:dB S=some S'):S'.pc=S.pc∧S'.steps=S.steps∧S'.base=S.base∧S'.size=S.size∧S'.mem=S.mem∧S'.inp=S.inp:=by
 unfold dB at h
 split at h
 ·cases h;exact⟨rfl,rfl,rfl,rfl,rfl,rfl⟩
 ·split at h
  ·cases h;exact⟨rfl,rfl,rfl,rfl,rfl,rfl⟩
  ·split at h
   ·cases h;exact⟨rfl,rfl,rfl,rfl,rfl,rfl⟩
   ·cases h
theorem xh (hf:f ≠ .unk) (W:Wd G D gt bt) (L:Gl gt bt D) (Y:Dec G Z gt) (M:Mach D σ I S) (ht:0≤S.taken) (ho:S.out.length+1≤1000000) (hv:0≤S.regs.getD 10 0∧S.regs.getD 10 0 < 4294967296) :
  CtP G 4 σ (.base (D.m 11)) [.dyn I.m,.str "ecall",f] (fun r σ'=>r = .none∧∃S',kS S=some S'∧Mach D σ' I S'∧KeptBut I.all σ σ') (fun i σ'=>kS S=none∧dH D σ' i "ecall" S.pc∧Mach D σ' I S∧KeptBut I.all σ σ'):=by
 (refine bC (W.machD 11 _ rfl) fun pm cd DD=>?_)
 have B:=W.B
 have hs:=W.sys
 have g1:=L.mask
 have hm:=M.m
 refine ch ["self", "name", "fields"] CD CE ["here"] 3 DD (by kernel_rfl) rfl (fW fun _ _ _=>rfl) rfl (by(simp only[lxp,lxq,lxr,lxs,lxt,bV,bU];rfl)) ?_
 (refine aA rfl<|aH<|aa rfl ?_;apply aV;assumption;assumption;exact rfl;refine aw rfl<|ap<|ay rfl<|aa rfl<|cB<|eL (fun _=>jP)<|au rfl<|ay rfl<|aa rfl<|cB<|eL (fun _=>jP)<|au rfl<|ay rfl<|aa rfl<|cB<|eL (fun _=>jP)<|aR rfl<|cY rfl<|bq<|aa rfl ?_;apply qP;assumption;assumption;exact rfl;apply ac;refine⟨ok fun _=>by(apply di;assumption;exact rfl),?_⟩;dsimp only[bU,bV])
 refine bj (CtP.imp (ia W L Y M ht ho hv) (fun r σ' qq=>?_) (fun i σ' qx=>?_)) rfl (by decide)
 ·(refine qi qq fun q1 S' q2 q3 q4=>?_;clear qq)
  subst q1
  have hm':=q3.m
  (refine gm (iW q2) fun e1 e2 e3 e4 e5 e6=>?_)
  refine ap<|aA rfl<|aG<|aX rfl<|i2 (fun _=>bh)<|ax ‹_› rfl ‹_›<|o2 (fun _=>nU)<|bJ<|aa rfl<|cT ‹_› ‹_› rfl<|ap<|aI<|aI<|aI<|bH ?_
  refine⟨rfl,_,by unfold kS;rw[q2];rfl,?_,by(apply KeptBut.set;simp only[MI.all,lxm,eq_self,true_or,or_true];assumption)⟩
  exact q3.setM (by exact rfl) rfl rfl rfl rfl rfl
 ·(refine fY qx fun q1 q2 q3 q4=>?_;clear qx)
  exact⟨by unfold kS;rw[q1];rfl,q2,q3,q4⟩
noncomputable abbrev Ay:List Str:=["self", "name", "fields", "one", "other"]
noncomputable abbrev Az:List Str:=["WITH_NUMBERS", "WORD_MASK", "WITH_REGISTERS", "LOADS", "STORES", "BRANCHES"]
noncomputable def jY (S:MSt):Option MSt:=(kS S).map fun S'=>{ S' with steps:=S.steps+1 }
def Bp (S:MSt) (w:Str):Prop:=(w = "align" ∧ S.pc % 4≠0)∨(w = "memory" ∧ S.pc % 4=0∧¬inMem S S.pc 4)∨(w = "illegal" ∧ S.pc % 4=0∧inMem S S.pc 4∧d0 S S.pc=0)∨(w = "ecall" ∧ S.pc % 4=0∧inMem S S.pc 4∧d0 S S.pc=115∧jY S=none)
structure Ops (G:Gd) (gt:List (Str×AV)):Prop where
 numbers:∃a f,gt.lookup (Str.ofString "WITH_NUMBERS")=some (.base a)∧TabS G a f∧f "ecall" = none
 regs:∃a f,gt.lookup (Str.ofString "WITH_REGISTERS")=some (.base a)∧TabS G a f∧f "ecall" = none
 loads:∃a f,gt.lookup (Str.ofString "LOADS")=some (.base a)∧TabS G a f∧f "ecall" = none
 stores:∃a f,gt.lookup (Str.ofString "STORES")=some (.base a)∧TabS G a f∧f "ecall" = none
 branches:∃a f,gt.lookup (Str.ofString "BRANCHES")=some (.base a)∧TabS G a f∧f "ecall" = none
theorem wX (W:Wd G D gt bt) (L:Gl gt bt D) (Y:Dec G Z gt) (O:Ops G gt) (M:Mach D σ I S) (hd:S.done=false) (hw:S.pc % 4=0→inMem S S.pc 4→d0 S S.pc=115∨d0 S S.pc=0)
  (ht:0≤S.taken) (ho:S.out.length+1≤1000000) (hv:0≤S.regs.getD 10 0∧S.regs.getD 10 0 < 4294967296) :
  CtP G 7 σ (.base (D.m 9)) [.dyn I.m] (fun r σ'=>r = .none∧(S.pc % 4=0∧inMem S S.pc 4∧d0 S S.pc=115)∧∃S',jY S=some S'∧Mach D σ' I S'∧KeptBut I.all σ σ')
   (fun i σ'=>(∃w,dH D σ' i w S.pc∧Bp S w)∧Mach D σ' I S∧KeptBut I.all σ σ'):=by
 (refine bC (W.machD 9 _ rfl) fun pm cd DD=>?_)
 have B:=W.B
 have hs:=W.sys
 (refine cy (O.numbers) fun a1 f1 g1 T1 n1=>?_)
 (refine cy (O.regs) fun a2 f2 g2 T2 n2=>?_)
 (refine cy (O.loads) fun a3 f3 g3 T3 n3=>?_)
 (refine cy (O.stores) fun a4 f4 g4 T4 n4=>?_)
 (refine cy (O.branches) fun a5 f5 g5 T5 n5=>?_)
 have hm:=M.m
 refine ch ["self"] Ay Az ["name", "fields", "one", "other"] 6 DD (by kernel_rfl) rfl (jH fun _=>rfl) rfl (by(simp only[lxp,lxq,lxr,lxs,lxt,bV,bU];rfl)) ?_
 (refine bY<|cr<|aH<|aa rfl ?_;apply aV;assumption;assumption;exact rfl;apply aJ;refine au ?_ ?_;assumption;refine aI<|aW<|fF<|bq<|aa rfl ?_;apply zV;assumption;assumption;exact rfl;refine af<|aH<|aa rfl ?_;apply aV;assumption;assumption;exact rfl;apply ac;refine⟨ok fun _=>by(apply di;assumption;exact rfl),?_⟩;dsimp only[bU,bV])
 refine bj (CtP.imp (uM W L Y M hw) (fun r σ' qq=>?_) (fun i σ' qx=>?_)) rfl (by decide)
 ·(refine fY qq fun q1 zz27 q4 q5=>?_;clear qq;refine ci zz27 fun T j q2 q3=>?_;clear zz27)
  subst q2
  have hm':=q4.m
  refine ig rfl ‹_› rfl (fun _=>rfl) (fun _=>rfl)<|bQ<|aw rfl<|bQ<|aw rfl<|dP<|ap<|ay rfl<|aa rfl<|ax ‹_› rfl ‹_› ?_
  refine jU T1 ?_
  rw[n1]
  dsimp only[Option.isSome_none]
  refine aJ<|au rfl<|ay rfl<|aa rfl<|ax ‹_› rfl ‹_› ?_
  refine jU T2 ?_
  rw[n2]
  dsimp only[Option.isSome_none]
  refine aJ<|au rfl<|bY<|b6<|bo<|aY<|aa rfl<|ax ‹_› rfl ‹_› ?_
  refine jU T3 ?_
  rw[n3]
  dsimp only[Option.isSome_none]
  refine aJ<|au rfl<|bo<|aY<|aa rfl<|ax ‹_› rfl ‹_› ?_
  refine jU T4 ?_
  rw[n4]
  dsimp only[Option.isSome_none]
  refine aJ<|au rfl<|cz<|au rfl<|ay rfl<|aa rfl<|ax ‹_› rfl ‹_› ?_
  refine jU T5 ?_
  rw[n5]
  dsimp only[Option.isSome_none]
  (apply aJ;refine au ?_ ?_;rfl;refine cY rfl<|bq<|aa rfl ?_;apply zT;assumption;assumption;exact rfl;refine ai rfl<|ai rfl<|ac ?_;refine⟨ok fun _=>by(apply di;assumption;exact rfl),?_⟩;dsimp only[bU,bV])
  refine bj (CtP.imp (xh (by simp) W L Y q4 ht ho hv) (fun r σ'' qq=>?_) (fun i σ'' qx=>?_)) rfl (by decide)
  ·(refine qi qq fun r1 S' r2 r3 r4=>?_;clear qq)
   subst r1
   have hm'':=r3.m
   have kb:KeptBut I.all σ σ'':=q5.trans r4 (by simp) (fun _ h=>h)
   refine ap<|aI<|aI<|aI<|aI<|aA rfl<|aG<|cN rfl ‹_› ‹_› rfl<|i2 (fun _=>bh)<|bJ<|aa rfl<|cT ‹_› ‹_› rfl<|ap<|bH ?_
   (refine aF (Option.map_eq_some_iff.mp r2) fun S₁ e1 e2=>?_)
   subst e2
   (refine gm (iW e1) fun d1 d2 d3 d4 d5 d6=>?_)
   refine⟨rfl,q1,{ S₁ with pc:=(S.pc+4) % 4294967296,steps:=S.steps+1 },by unfold jY;rw[r2];rfl,?_,by(apply KeptBut.set;simp only[MI.all,lxm,eq_self,true_or,or_true];assumption)⟩
   exact r3.setM (by simp only[d2];exact rfl) rfl rfl rfl rfl rfl
  ·(refine fY qx fun r1 r2 r3 r4=>?_;clear qx)
   exact⟨⟨_,r2,.inr (.inr (.inr ⟨rfl,q1.1,q1.2.1,q1.2.2,by unfold jY;rw[r1];rfl⟩))⟩,r3,q5.trans r4 (by simp) (fun _ h=>h)⟩
 ·(refine dA qx fun zz42 q3 q4=>?_;clear qx;refine aF zz42 fun w q1 q2=>?_;clear zz42)
  exact⟨⟨w,q1,by unfold Bp;rcases q2 with q2 | q2 | q2;exact .inl q2;exact .inr (.inl q2);exact .inr (.inr (.inl q2))⟩,q3,fun n o hn e=>q4 n o (fun q=>hn (by simp only[lxm,lxn,or_false] at q;subst q;simp)) e⟩
end
section
variable {G:Gd} {D:Ad} {gt bt:List (Str×AV)} {σ σ' σ₁ σ₂:List AO} {C:Cx} {lv:List (Str×AV)}
def yN (D:Ad) (σ:List AO) (i:Nat) (e b:Int) (o:List UInt8) (z:Int):Prop:=∃fs,σ[i]? = some (.inst D.image fs)∧fs.lookup (Str.ofString "entry")=some (.int e)∧fs.lookup (Str.ofString "base")=some (.int b)∧fs.lookup (Str.ofString "octets")=some (.bytes o)∧fs.lookup (Str.ofString "bss_size")=some (.int z)
theorem kY (z:Int):∀k:Nat,(List.replicate k [AV.int z]).flatten=(List.replicate k z).map AV.int
 | 0=>rfl
 | k+1=>by rw[List.replicate_succ,List.flatten_cons,kY z k,List.replicate_succ,List.map_cons];rfl
theorem oh {K:AV→List AO→Prop} (hi:σ[i]? = some (.list [.int z])) (h1 : -1000000≤n) (h2:n≤1000000) (k:K (.dyn σ.length) (σ++[.list ((List.replicate n.toNat z).map .int)])):ib G C σ (binaryOp .Mult) (.dyn i) (.int n) K:=by
 rw[← kY] at k
 exact o2 (fun _=>lr hi (Int.le_of_lt (Int.lt_of_lt_of_le (by decide) h1)) (Int.lt_of_le_of_lt h2 (by decide)) (by simp;exact Int.le_trans h2 (by decide))) k
theorem oC (h:d.length≤n):((List.replicate n (0:UInt8)).take (cL (List.replicate n (0:UInt8)).length none)++d++(List.replicate n (0:UInt8)).drop (max (cL (List.replicate n (0:UInt8)).length none) (d9 (List.replicate n (0:UInt8)).length (some (d.length:Int)))))=d++List.replicate (n - d.length) 0:=by
 have e1:cL (List.replicate n (0:UInt8)).length none=0:=rfl
 have e2:d9 (List.replicate n (0:UInt8)).length (some (d.length:Int))=d.length:=by
  unfold d9;simp only[Option.elim];rw[clipAt_in (Int.natCast_nonneg _) (by simpa using h)];simp
 rw[e1,e2,List.take_zero,List.nil_append,Nat.zero_max,List.drop_replicate]
theorem bK:(σ++l).set σ.length a=σ++l.set 0 a:=kF rfl rfl
theorem aE:(σ++l).set (σ.length+k) a=σ++l.set k a:=mq rfl rfl
theorem yX:(σ++x0::l).set σ.length a=σ++a::l:=bK
theorem DV:(σ++x0::x1::l).set (σ.length+1) a=σ++x0::a::l:=aE
theorem DU:(σ++x0::x1::x2::l).set (σ.length+2) a=σ++x0::x1::a::l:=aE
theorem DT:(σ++x0::x1::x2::x3::l).set (σ.length+3) a=σ++x0::x1::x2::a::l:=aE
theorem DS:(σ++x0::x1::x2::x3::x4::l).set (σ.length+4) a=σ++x0::x1::x2::x3::a::l:=aE
theorem DR:(σ++x0::x1::x2::x3::x4::x5::l).set (σ.length+5) a=σ++x0::x1::x2::x3::x4::a::l:=aE
theorem DQ:(σ++x0::x1::x2::x3::x4::x5::x6::l).set (σ.length+6) a=σ++x0::x1::x2::x3::x4::x5::a::l:=aE
theorem DP:(σ++x0::x1::x2::x3::x4::x5::x6::x7::l).set (σ.length+7) a=σ++x0::x1::x2::x3::x4::x5::x6::a::l:=aE
theorem DO:(σ++x0::x1::x2::x3::x4::x5::x6::x7::x8::l).set (σ.length+8) a=σ++x0::x1::x2::x3::x4::x5::x6::x7::a::l:=aE
theorem aK {K:AFl→List (Str×AV)→List AO→Prop} (e:σ=σ₁) (e2:lv=lv₁) (h:eQ G C lv₁ σ₁ rest K X):jN G C rest K X .next lv σ:=by subst e e2;exact h
end
section
set_option maxHeartbeats 4000000
variable {G:Gd} {D:Ad} {Z:DAd} {gt bt:List (Str×AV)} {σ:List AO} {C:Cx} {lv:List (Str×AV)} {I:MI} {S:MSt}
noncomputable abbrev AT:List Str:=["self", "entry", "base", "octets", "bss_size", "symbols"]
theorem kU (hsy:sy ≠ .unk) (W:Wd G D gt bt):CtP G 2 σ (.base D.image) [.int e,.int b,.bytes o,.int z,sy] (fun r σ'=>r = .dyn σ.length∧yN D σ' σ.length e b o z∧Keep σ σ') (fun _ _=>False):=by
 (refine bC (W.imageD) fun pm cd DD=>?_)
 have B:=W.B
 refine rH W.imageC W.imageIn W.imageF.fn ?_
 refine ch AT AT [] [] 0 DD (by kernel_rfl) rfl (CC fun _ _ _ _ _ _=>rfl) rfl (by(simp only[lxp,lxq,lxr,lxs,lxt,bV,bU];rfl)) ?_
 (refine aA rfl<|aa rfl<|bJ<|aa rfl ?_;(apply cU;assumption;(apply aj;simp only[lxS,lxA,lxC,lxN,lxY,lxZ,Nat.reduceAdd];simp only[bS,bT,Int.reduceToNat,lxg,lxh];rfl);exact rfl);apply aK;(simp only[bK,aE,bS,bT,cK,lxa,bV,bU,lxA,lxM,lxS,lxC,lxN,lxY,lxZ,Nat.reduceAdd,put,aN,String.reduceEq,reduceIte,List.set_set];rfl);dsimp only[bS,bT,cK,bV,bU];refine aA rfl<|aa rfl<|bJ<|aa rfl ?_;(apply cU;assumption;(apply aj;simp only[lxS,lxA,lxC,lxN,lxY,lxZ,Nat.reduceAdd];simp only[bS,bT,Int.reduceToNat,lxg,lxh];rfl);exact rfl);apply aK;(simp only[bK,aE,bS,bT,cK,lxa,bV,bU,lxA,lxM,lxS,lxC,lxN,lxY,lxZ,Nat.reduceAdd,put,aN,String.reduceEq,reduceIte,List.set_set];rfl);dsimp only[bS,bT,cK,bV,bU];refine aA rfl<|aa rfl<|bJ<|aa rfl ?_;(apply cU;assumption;(apply aj;simp only[lxS,lxA,lxC,lxN,lxY,lxZ,Nat.reduceAdd];simp only[bS,bT,Int.reduceToNat,lxg,lxh];rfl);exact rfl);apply aK;(simp only[bK,aE,bS,bT,cK,lxa,bV,bU,lxA,lxM,lxS,lxC,lxN,lxY,lxZ,Nat.reduceAdd,put,aN,String.reduceEq,reduceIte,List.set_set];rfl);dsimp only[bS,bT,cK,bV,bU];refine aA rfl<|aa rfl<|bJ<|aa rfl ?_;(apply cU;assumption;(apply aj;simp only[lxS,lxA,lxC,lxN,lxY,lxZ,Nat.reduceAdd];simp only[bS,bT,Int.reduceToNat,lxg,lxh];rfl);exact rfl);apply aK;(simp only[bK,aE,bS,bT,cK,lxa,bV,bU,lxA,lxM,lxS,lxC,lxN,lxY,lxZ,Nat.reduceAdd,put,aN,String.reduceEq,reduceIte,List.set_set];rfl);dsimp only[bS,bT,cK,bV,bU];refine aA rfl<|iA rfl rfl ‹_› (by decide)<|bJ<|aa rfl ?_;(apply cU;assumption;(apply aj;simp only[lxS,lxA,lxC,lxN,lxY,lxZ,Nat.reduceAdd];simp only[bS,bT,Int.reduceToNat,lxg,lxh];rfl);exact rfl);apply aK;(simp only[bK,aE,bS,bT,cK,lxa,bV,bU,lxA,lxM,lxS,lxC,lxN,lxY,lxZ,Nat.reduceAdd,put,aN,String.reduceEq,reduceIte,List.set_set];rfl);dsimp only[bS,bT,cK,bV,bU];refine aA rfl<|aP<|ac<|aL rfl<|bJ<|aa rfl ?_;(apply cU;assumption;(apply ad;apply aj;simp only[lxS,lxA,lxC,lxN,lxY,lxZ,Nat.reduceAdd];simp only[bS,bT,Int.reduceToNat,lxg,lxh];rfl);exact rfl);apply aK;(simp only[bK,aE,bS,bT,cK,lxa,bV,bU,lxA,lxM,lxS,lxC,lxN,lxY,lxZ,Nat.reduceAdd,put,aN,String.reduceEq,reduceIte,List.set_set];rfl);dsimp only[bS,bT,cK,bV,bU];refine aA rfl<|aP<|ac<|aL rfl<|bJ<|aa rfl ?_;(apply cU;assumption;(apply ad;apply aj;simp only[lxS,lxA,lxC,lxN,lxY,lxZ,Nat.reduceAdd];simp only[bS,bT,Int.reduceToNat,lxg,lxh];rfl);exact rfl);apply aK;(simp only[bK,aE,bS,bT,cK,lxa,bV,bU,lxA,lxM,lxS,lxC,lxN,lxY,lxZ,Nat.reduceAdd,put,aN,String.reduceEq,reduceIte,List.set_set];rfl);dsimp only[bS,bT,cK,bV,bU];refine aA rfl<|aP<|ac<|aL rfl<|bJ<|aa rfl ?_;(apply cU;assumption;(apply ad;apply aj;simp only[lxS,lxA,lxC,lxN,lxY,lxZ,Nat.reduceAdd];simp only[bS,bT,Int.reduceToNat,lxg,lxh];rfl);exact rfl);apply aK;(simp only[bK,aE,bS,bT,cK,lxa,bV,bU,lxA,lxM,lxS,lxC,lxN,lxY,lxZ,Nat.reduceAdd,put,aN,String.reduceEq,reduceIte,List.set_set];rfl);dsimp only[bS,bT,cK,bV,bU];refine bH ?_)
 exact⟨rfl,rfl,⟨_,aj rfl rfl,by exact rfl,by exact rfl,by exact rfl,by exact rfl⟩,.app⟩
noncomputable abbrev Cy:List Str:=["self", "image", "memory_size", "size", "end"]
noncomputable abbrev Cz:List Str:=["len", "WORD_MASK", "Trap", "bytearray", "SP"]
theorem iT (W:Wd G D gt bt) (L:Gl gt bt D) (H:yN D σ i e b o z) (ho:o.length≤1000000) (hn:0≤n) (hn2:n≤1000000) (hz:0≤z) :
  CtP G 4 σ (.base D.mach) [.dyn i,.int n] (fun r σ'=>(0≤b∧o.length+z≤n∧b+n≤4294967295)∧∃I:MI,r = .dyn I.m∧Mach D σ' I ⟨b,n,o++List.replicate (n.toNat - o.length) 0,(List.replicate 32 (0:Int)).set 2 (b+n - (b+n) % 16),e,[],[],0,0,0,false⟩∧Keep σ σ'∧∀j∈I.all,σ.length≤j)
   (fun i σ'=>¬ (0≤b∧o.length+z≤n∧b+n≤4294967295)∧dH D σ' i "memory" b∧Keep σ σ'):=by
 (refine bC (W.machD 0 _ rfl) fun pm cd DD=>?_)
 (refine bW H fun fs hi f1 f2 f3 f4=>?_;clear H)
 have B:=W.B
 have g1:=L.len
 have g2:=L.mask
 have g3:=L.trap
 have g4:=L.exc
 have g5:=L.barr
 have g6:=L.sp
 refine rH W.machC (W.machM 0 _ rfl).1 (W.machM 0 _ rfl).2.fn ?_
 refine ch ["self", "image", "memory_size"] Cy Cz ["size", "end"] 2 DD (by kernel_rfl) rfl (fW fun _ _ _=>rfl) rfl (by(simp only[lxp,lxq,lxr,lxs,lxt,bV,bU];rfl)) ?_
 by_cases c:0≤b∧o.length+z≤n∧b+n≤4294967295
 ·(refine aA rfl<|cb rfl ‹_› rfl ‹_›<|af<|aH<|aa rfl<|bB ‹_› (ad ‹_›) ‹_› rfl (by decide)<|ac<|aB<|eT (q1 0 1000000 0 1099511627776 ho rfl)<|fP rfl<|bY<|b6<|bo<|aY<|aH<|aa rfl<|bB ‹_› (ad ‹_›) ‹_› rfl (by decide)<|dE (fun _=>dN) ?_;refine au ?_ ?_;(apply decide_eq_false;exact Int.not_lt.mpr c.1);refine bo<|aY<|aX rfl<|aH<|aa rfl<|bB ‹_› (ad ‹_›) ‹_› rfl (by decide)<|o2 (fun _=>bh)<|aa rfl<|eL (fun _=>fk) ?_;refine au ?_ ?_;(apply decide_eq_false;exact Int.not_lt.mpr c.2.1);refine bo<|aY<|aG<|aH<|aa rfl<|bB ‹_› (ad ‹_›) ‹_› rfl (by decide)<|aa rfl<|o2 (fun _=>bh)<|ax ‹_› rfl ‹_›<|eL (fun _=>fk) ?_;refine au ?_ ?_;(apply decide_eq_false;exact Int.not_lt.mpr c.2.2);refine cz<|au rfl<|aI<|aA rfl<|aH<|aa rfl<|bB ‹_› (ad ‹_›) ‹_› rfl (by decide)<|bJ<|aa rfl ?_;apply cq;assumption;(apply aj;simp only[lxS,lxA,lxC,lxN,lxY,lxZ,Nat.reduceAdd];simp only[bS,bT,Int.reduceToNat,lxg,lxh];rfl);exact rfl;apply aK;(simp only[bK,aE,bS,bT,cK,lxa,bV,bU,lxA,lxM,lxS,lxC,lxN,lxY,lxZ,Nat.reduceAdd,put,aN,String.reduceEq,reduceIte,List.set_set];rfl);dsimp only[bS,bT,cK,bV,bU];refine aA rfl<|aa rfl<|bJ<|aa rfl ?_;apply cq;assumption;(apply aj;simp only[lxS,lxA,lxC,lxN,lxY,lxZ,Nat.reduceAdd];simp only[bS,bT,Int.reduceToNat,lxg,lxh];rfl);exact rfl;apply aK;(simp only[bK,aE,bS,bT,cK,lxa,bV,bU,lxA,lxM,lxS,lxC,lxN,lxY,lxZ,Nat.reduceAdd,put,aN,String.reduceEq,reduceIte,List.set_set];rfl);dsimp only[bS,bT,cK,bV,bU];refine aA rfl<|cb rfl ‹_› rfl ‹_›<|ai rfl<|ac<|aT<|tH ‹_› (Int.le_trans hn2 (by decide))<|bJ<|aa rfl ?_;apply cq;assumption;(apply ad;apply aj;simp only[lxS,lxA,lxC,lxN,lxY,lxZ,Nat.reduceAdd];simp only[bS,bT,Int.reduceToNat,lxg,lxh];rfl);exact rfl;apply aK;(simp only[bK,aE,bS,bT,cK,lxa,bV,bU,lxA,lxM,lxS,lxC,lxN,lxY,lxZ,Nat.reduceAdd,put,aN,String.reduceEq,reduceIte,List.set_set];rfl);dsimp only[bS,bT,cK,bV,bU];refine aA rfl<|aH<|aa rfl<|bB ‹_› (ad ‹_›) ‹_› rfl (by decide)<|ck<|aH<|aa rfl ?_;apply aV;assumption;(apply aj;simp only[lxS,lxA,lxC,lxN,lxY,lxZ,Nat.reduceAdd];simp only[bS,bT,Int.reduceToNat,lxg,lxh];rfl);exact rfl;refine kc<|aa rfl ?_;refine⟨_,rfl,?_⟩;apply lL;(apply ad;apply cE;simp only[lxS,lxA,lxC,lxN,lxY,lxZ,Nat.reduceAdd];simp only[bS,bT,Int.reduceToNat,lxg,lxh];rfl);(apply aj;simp only[lxS,lxA,lxC,lxN,lxY,lxZ,Nat.reduceAdd];simp only[bS,bT,Int.reduceToNat,lxg,lxh];rfl);(simp only[lxC,lxN,lxA,lxM,lxS,List.length_replicate];exact Int.ofNat_le.mp (oZ (Int.le_of_eq (Int.toNat_of_nonneg hn)) (Int.ofNat_le.mpr ho) hn2 (by simp +arith only[Int.natCast_add,Int.cast_ofNat_Int])));apply aK;(simp only[bK,aE,bS,bT,cK,lxa,bV,bU,lxA,lxM,lxS,lxC,lxN,lxY,lxZ,Nat.reduceAdd,put,aN,String.reduceEq,reduceIte,List.set_set];rfl);dsimp only[bS,bT,cK,bV,bU];refine aA rfl<|aG<|aP<|az<|ac<|aL rfl<|bf ?_;apply oh;(apply aj;simp only[lxS,lxA,lxC,lxN,lxY,lxZ,Nat.reduceAdd];simp only[bS,bT,Int.reduceToNat,lxg,lxh];rfl);decide;decide;refine bJ<|aa rfl ?_;apply cq;assumption;(apply ad;apply ad;apply aj;simp only[lxS,lxA,lxC,lxN,lxY,lxZ,Nat.reduceAdd];simp only[bS,bT,Int.reduceToNat,lxg,lxh];rfl);exact rfl;apply aK;(simp only[bK,aE,bS,bT,cK,lxa,bV,bU,lxA,lxM,lxS,lxC,lxN,lxY,lxZ,Nat.reduceAdd,put,aN,String.reduceEq,reduceIte,List.set_set];rfl);dsimp only[bS,bT,cK,bV,bU];refine aA rfl<|aG<|aH<|aa rfl<|bB ‹_› (ad ‹_›) ‹_› rfl (by decide)<|aa rfl<|o2 (fun _=>bh)<|cV rfl<|aA rfl<|aX rfl<|aX rfl<|i2 (fun _=>cw (by decide))<|o2 (fun _=>cC)<|ck<|aH<|aa rfl ?_;apply aV;assumption;(apply aj;simp only[lxS,lxA,lxC,lxN,lxY,lxZ,Nat.reduceAdd];simp only[bS,bT,Int.reduceToNat,lxg,lxh];rfl);exact rfl;refine ax ‹_› rfl ‹_› ?_;apply db;(apply cE;simp only[lxS,lxA,lxC,lxN,lxY,lxZ,Nat.reduceAdd];simp only[bS,bT,Int.reduceToNat,lxg,lxh];rfl);decide;decide;decide;apply aK;(simp only[bK,aE,bS,bT,cK,lxa,bV,bU,lxA,lxM,lxS,lxC,lxN,lxY,lxZ,Nat.reduceAdd,put,aN,String.reduceEq,reduceIte,List.set_set];rfl);dsimp only[bS,bT,cK,bV,bU];refine aA rfl<|aH<|aa rfl<|bB ‹_› (ad ‹_›) ‹_› rfl (by decide)<|bJ<|aa rfl ?_;apply cq;assumption;(apply aj;simp only[lxS,lxA,lxC,lxN,lxY,lxZ,Nat.reduceAdd];simp only[bS,bT,Int.reduceToNat,lxg,lxh];rfl);exact rfl;apply aK;(simp only[bK,aE,bS,bT,cK,lxa,bV,bU,lxA,lxM,lxS,lxC,lxN,lxY,lxZ,Nat.reduceAdd,put,aN,String.reduceEq,reduceIte,List.set_set];rfl);dsimp only[bS,bT,cK,bV,bU];refine aA rfl<|cb rfl ‹_› rfl ‹_›<|ac<|aT<|m0<|bJ<|aa rfl ?_;apply cq;assumption;(apply ad;apply aj;simp only[lxS,lxA,lxC,lxN,lxY,lxZ,Nat.reduceAdd];simp only[bS,bT,Int.reduceToNat,lxg,lxh];rfl);exact rfl;apply aK;(simp only[bK,aE,bS,bT,cK,lxa,bV,bU,lxA,lxM,lxS,lxC,lxN,lxY,lxZ,Nat.reduceAdd,put,aN,String.reduceEq,reduceIte,List.set_set];rfl);dsimp only[bS,bT,cK,bV,bU];refine aA rfl<|cb rfl ‹_› rfl ‹_›<|ac<|aT<|m0<|bJ<|aa rfl ?_;apply cq;assumption;(apply ad;apply aj;simp only[lxS,lxA,lxC,lxN,lxY,lxZ,Nat.reduceAdd];simp only[bS,bT,Int.reduceToNat,lxg,lxh];rfl);exact rfl;apply aK;(simp only[bK,aE,bS,bT,cK,lxa,bV,bU,lxA,lxM,lxS,lxC,lxN,lxY,lxZ,Nat.reduceAdd,put,aN,String.reduceEq,reduceIte,List.set_set];rfl);dsimp only[bS,bT,cK,bV,bU];refine aA rfl<|bf<|bJ<|aa rfl ?_;apply cq;assumption;(apply aj;simp only[lxS,lxA,lxC,lxN,lxY,lxZ,Nat.reduceAdd];simp only[bS,bT,Int.reduceToNat,lxg,lxh];rfl);exact rfl;apply aK;(simp only[bK,aE,bS,bT,cK,lxa,bV,bU,lxA,lxM,lxS,lxC,lxN,lxY,lxZ,Nat.reduceAdd,put,aN,String.reduceEq,reduceIte,List.set_set];rfl);dsimp only[bS,bT,cK,bV,bU];refine aA rfl<|bf<|bJ<|aa rfl ?_;apply cq;assumption;(apply aj;simp only[lxS,lxA,lxC,lxN,lxY,lxZ,Nat.reduceAdd];simp only[bS,bT,Int.reduceToNat,lxg,lxh];rfl);exact rfl;apply aK;(simp only[bK,aE,bS,bT,cK,lxa,bV,bU,lxA,lxM,lxS,lxC,lxN,lxY,lxZ,Nat.reduceAdd,put,aN,String.reduceEq,reduceIte,List.set_set];rfl);dsimp only[bS,bT,cK,bV,bU];refine aA rfl<|bf<|bJ<|aa rfl ?_;apply cq;assumption;(apply aj;simp only[lxS,lxA,lxC,lxN,lxY,lxZ,Nat.reduceAdd];simp only[bS,bT,Int.reduceToNat,lxg,lxh];rfl);exact rfl;apply aK;(simp only[bK,aE,bS,bT,cK,lxa,bV,bU,lxA,lxM,lxS,lxC,lxN,lxY,lxZ,Nat.reduceAdd,put,aN,String.reduceEq,reduceIte,List.set_set];rfl);dsimp only[bS,bT,cK,bV,bU];refine aA rfl<|et<|bJ<|aa rfl ?_;apply cq;assumption;(apply aj;simp only[lxS,lxA,lxC,lxN,lxY,lxZ,Nat.reduceAdd];simp only[bS,bT,Int.reduceToNat,lxg,lxh];rfl);exact rfl;apply aK;(simp only[bK,aE,bS,bT,cK,lxa,bV,bU,lxA,lxM,lxS,lxC,lxN,lxY,lxZ,Nat.reduceAdd,put,aN,String.reduceEq,reduceIte,List.set_set];rfl);dsimp only[bS,bT,cK,bV,bU];refine aA rfl<|fu<|bJ<|aa rfl ?_;apply cq;assumption;(apply ad;apply aj;simp only[lxS,lxA,lxC,lxN,lxY,lxZ,Nat.reduceAdd];simp only[bS,bT,Int.reduceToNat,lxg,lxh];rfl);exact rfl;apply aK;(simp only[bK,aE,bS,bT,cK,lxa,bV,bU,lxA,lxM,lxS,lxC,lxN,lxY,lxZ,Nat.reduceAdd,put,aN,String.reduceEq,reduceIte,List.set_set];rfl);dsimp only[bS,bT,cK,bV,bU];refine bH ?_)
  have e:=oC (d:=o) (n:=n.toNat) (Int.ofNat_le.mp (oZ (Int.le_of_eq (Int.toNat_of_nonneg hn).symm) c.2.1 hz))
  rw[List.append_assoc] at e
  rw[e]
  refine⟨rfl,c,⟨σ.length,σ.length+1,σ.length+4,σ.length+5,σ.length+6,σ.length+7⟩,rfl,?_,.app,fun j hj=>?_⟩
  ·exact⟨aj rfl rfl,cE rfl rfl,cE rfl rfl,cE rfl rfl,cE rfl rfl,⟨[],cE rfl rfl,.inl rfl⟩,by simp,by show ((o++List.replicate (n.toNat - o.length) 0).length:Int)=n;simp;lia,by simp;lia,by simp,by simp,by show σ.length+5≠σ.length+6;exact Nat.ne_of_lt (Nat.le_refl _),by show σ.length+1≠σ.length+5;simp,by show σ.length+1≠σ.length+6;simp⟩
  ·simp only[MI.all,lxm,lxn,or_false] at hj
   exact hj.elim (fun e=>Nat.le_of_eq e.symm) fun e=>e.elim (fun e=>q1 1 0 0 0 (Nat.le_of_eq e.symm) rfl) fun e=>e.elim (fun e=>q1 4 0 0 0 (Nat.le_of_eq e.symm) rfl) fun e=>e.elim (fun e=>q1 5 0 0 0 (Nat.le_of_eq e.symm) rfl) fun e=>e.elim (fun e=>q1 6 0 0 0 (Nat.le_of_eq e.symm) rfl) fun e=>q1 7 0 0 0 (Nat.le_of_eq e.symm) rfl
 ·by_cases c1:b < 0
  ·(refine aA rfl<|b7 ?_;apply eq;assumption;exact rfl;assumption;refine af<|aH<|aa rfl ?_;apply bB;assumption;exact ad ‹_›;assumption;exact rfl;decide;apply ac;refine⟨ok fun _=>by(exact dr),?_⟩;apply eT;exact q1 0 1000000 0 1099511627776 ho rfl;refine fP rfl ?_;refine bY<|b6<|bo<|aY<|aH<|aa rfl ?_;apply bB;assumption;exact ad ‹_›;assumption;exact rfl;decide;refine dE (fun _=>dN) ?_;refine aR ?_ ?_;(apply decide_eq_true;assumption);refine aR ?_ ?_;rfl;refine aW<|cD rfl<|b7 ?_;apply ax;assumption;exact rfl;assumption;refine bx<|af<|aH<|aa rfl ?_;apply bB;assumption;exact ad ‹_›;assumption;exact rfl;decide;apply ac;refine⟨ok fun _=>by(apply dc;assumption),?_⟩;apply dQ;assumption;assumption;exact rfl;decide)
   exact⟨_,_,_,_,rfl,W.trapC,dh.1,c,dh.2.1,fun i o h=>dh.2.2 _ _ (ad h)⟩
  ·by_cases c2:o.length+z > n
   ·(refine aA rfl<|b7 ?_;apply eq;assumption;exact rfl;assumption;refine af<|aH<|aa rfl ?_;apply bB;assumption;exact ad ‹_›;assumption;exact rfl;decide;apply ac;refine⟨ok fun _=>by(exact dr),?_⟩;apply eT;exact q1 0 1000000 0 1099511627776 ho rfl;refine fP rfl ?_;refine bY<|b6<|bo<|aY<|aH<|aa rfl ?_;apply bB;assumption;exact ad ‹_›;assumption;exact rfl;decide;refine dE (fun _=>dN) ?_;refine au ?_ ?_;(apply decide_eq_false;assumption);refine bo<|aY<|aX rfl<|aH<|aa rfl ?_;apply bB;assumption;exact ad ‹_›;assumption;exact rfl;decide;refine o2 (fun _=>bh)<|aa rfl<|eL (fun _=>fk) ?_;refine aR ?_ ?_;(apply decide_eq_true;assumption);refine aR ?_ ?_;rfl;refine aW<|cD rfl<|b7 ?_;apply ax;assumption;exact rfl;assumption;refine bx<|af<|aH<|aa rfl ?_;apply bB;assumption;exact ad ‹_›;assumption;exact rfl;decide;apply ac;refine⟨ok fun _=>by(apply dc;assumption),?_⟩;apply dQ;assumption;assumption;exact rfl;decide)
    exact⟨_,_,_,_,rfl,W.trapC,dh.1,c,dh.2.1,fun i o h=>dh.2.2 _ _ (ad h)⟩
   ·(refine aA rfl<|b7 ?_;apply eq;assumption;exact rfl;assumption;refine af<|aH<|aa rfl ?_;apply bB;assumption;exact ad ‹_›;assumption;exact rfl;decide;apply ac;refine⟨ok fun _=>by(exact dr),?_⟩;apply eT;exact q1 0 1000000 0 1099511627776 ho rfl;refine fP rfl ?_;refine bY<|b6<|bo<|aY<|aH<|aa rfl ?_;apply bB;assumption;exact ad ‹_›;assumption;exact rfl;decide;refine dE (fun _=>dN) ?_;refine au ?_ ?_;(apply decide_eq_false;assumption);refine bo<|aY<|aX rfl<|aH<|aa rfl ?_;apply bB;assumption;exact ad ‹_›;assumption;exact rfl;decide;refine o2 (fun _=>bh)<|aa rfl<|eL (fun _=>fk) ?_;refine au ?_ ?_;(apply decide_eq_false;assumption);refine bo<|aY<|aG<|aH<|aa rfl ?_;apply bB;assumption;exact ad ‹_›;assumption;exact rfl;decide;refine aa rfl<|o2 (fun _=>bh) ?_;apply ax;assumption;exact rfl;assumption;refine eL (fun _=>fk) ?_;refine aR ?_ ?_;(apply decide_eq_true;lia);refine aR ?_ ?_;rfl;refine aW<|cD rfl<|b7 ?_;apply ax;assumption;exact rfl;assumption;refine bx<|af<|aH<|aa rfl ?_;apply bB;assumption;exact ad ‹_›;assumption;exact rfl;decide;apply ac;refine⟨ok fun _=>by(apply dc;assumption),?_⟩;apply dQ;assumption;assumption;exact rfl;decide)
    exact⟨_,_,_,_,rfl,W.trapC,dh.1,c,dh.2.1,fun i o h=>dh.2.2 _ _ (ad h)⟩
end
section
variable {G:Gd} {D:Ad} {gt bt:List (Str×AV)} {σ σ' σ₁ σ₂:List AO} {C:Cx} {lv:List (Str×AV)}
noncomputable def DM:Int→List Int→List Int
 | _,[]=>[]
 | g,z::zs=>g % z::DM (g / z) zs
noncomputable def c6 (k:Nat):List Int:=(List.replicate k [115,0,0,0]).flatten
noncomputable def pV (k r:Nat):List UInt8:=cc (c6 k)++List.replicate r 0
theorem eV (k:Nat):(c6 k).length=4*k:=by
 unfold c6
 simp[List.length_flatten,List.map_replicate,List.sum_replicate_nat]
 lia
theorem bN (l:List Int):(cc l).length=l.length:=by simp[cc]
theorem kJ (a b:List Int):cc (a++b)=cc a++cc b:=by simp[cc]
theorem kH (n:Nat):cc (List.replicate n 0)=List.replicate n 0:=by unfold cc;rw[List.map_replicate];rfl
theorem kq {f:α→β} {xs:List α} (lo hi:Option Int):cut (xs.map f) lo hi=(cut xs lo hi).map f:=by
 unfold cut
 rw[List.length_map,List.map_take,List.map_drop]
theorem rQ (h:t < k) (hk:k≤5):By.le (((pV k r).drop (4*t)).take 4)=115:=by
 have e:((pV k r).drop (4*t)).take 4=((cc (c6 k)).drop (4*t)).take 4:=by
  unfold pV
  rw[List.drop_append_of_le_length (by rw[bN,eV];exact lU (Nat.mul_le_mul_left 4 h)),List.take_append_of_le_length (by rw[List.length_drop,bN,eV];lia)]
 rw[e]
 have:∀k≤5,∀t < k,By.le (((cc (c6 k)).drop (4*t)).take 4)=115:=by decide +kernel
 exact this k hk t h
theorem rP (h:4≤r):By.le (((pV k r).drop (4*k)).take 4)=0:=by
 have e:((pV k r).drop (4*k)).take 4=List.replicate 4 0:=by
  unfold pV
  rw[List.drop_append_of_le_length (by rw[bN,eV];exact Nat.le_refl _)]
  rw[show (cc (c6 k)).drop (4*k)=[] from List.drop_eq_nil_of_le (by rw[bN,eV];exact Nat.le_refl _),List.nil_append,List.take_replicate]
  congr 1
  lia
 rw[e];rfl
theorem uu:cc (c6 k++List.replicate r 0)=pV k r:=by rw[kJ,kH];rfl
theorem mW:∀n∈c6 k,0≤n∧n < 256:=fun n hn=>by
 unfold c6 at hn
 (refine aF (List.mem_flatten.mp hn) fun l h1 h2=>?_)
 (refine bD (List.mem_replicate.mp h1) fun _ zz2=>?_;subst zz2)
 simp only[lxm,lxn,or_false] at h2
 exact h2.elim (fun e=>⟨Int.le_of_lt (Int.lt_of_lt_of_le (by decide) (Int.le_of_eq e.symm)),Int.lt_of_le_of_lt (Int.le_of_eq e) (by decide)⟩) fun e=>e.elim (fun e=>⟨Int.le_of_eq e.symm,Int.lt_of_le_of_lt (Int.le_of_eq e) (by decide)⟩) fun e=>e.elim (fun e=>⟨Int.le_of_eq e.symm,Int.lt_of_le_of_lt (Int.le_of_eq e) (by decide)⟩) fun e=>⟨Int.le_of_eq e.symm,Int.lt_of_le_of_lt (Int.le_of_eq e) (by decide)⟩
theorem rn {ns:List Int} {lo hi:Option Int} (h:∀n∈ns,0≤n∧n < 256):∀n∈cut ns lo hi,0≤n∧n < 256:=fun n hn=>h n (List.mem_of_mem_drop (List.mem_of_mem_take hn))
def WellAt (σ:List AO) (W N:Nat) (ns:List Int) (k:Nat):Prop:=∃p c:Int,σ[W]? = some (.list [.dyn N,.int p,.int c])∧0≤p∧p≤k∧σ[N]? = some (.list (ns.map .int))∧ns.length < 1000
theorem WellAt.ne (h:WellAt σ W N ns k):W≠N:=by
 (refine dL h fun p c h1 _ _ h2 _=>?_;clear h)
 refine aO h1 h2 fun q=>?_
 cases ns with
 | nil=>simp at q
 | cons a l=>simp at q
theorem WellAt.off (h:WellAt σ W N ns k) (M:Mach D σ I S):W ∉ I.all:=by
 (refine ci h fun p c h1 _=>?_;clear h)
 refine M.mOff h1 (by simp) (by simp) (fun xs q=>?_) (by simp)
 cases xs with
 | nil=>simp at q
 | cons a l=>simp at q
theorem WellAt.kept (h:WellAt σ W N ns k) (K:KeptBut is σ σ') (h1:W ∉ is) (h2:N ∉ is):WellAt σ' W N ns k:=by
 (refine dL h fun p c a1 a2 a3 a4 a5=>?_;clear h)
 exact⟨p,c,K _ _ h1 a1,a2,a3,K _ _ h2 a4,a5⟩
theorem Mach.kept (M:Mach D σ I S) (K:KeptBut is σ σ') (h:∀i∈is,i ∉ I.all) (h':∀i∈is,∀j,σ[i]? ≠ some (.tuple [.str "ecall",.dyn j])):Mach D σ' I S:=by
 have off:∀j∈I.all,j ∉ is:=fun j hj q=>h j q hj
 refine { M with m:=K _ _ (off _ (by simp)) M.m,me:=K _ _ (off _ (by simp)) M.me,r:=K _ _ (off _ (by simp)) M.r,o:=K _ _ (off _ (by simp)) M.o,i:=K _ _ (off _ (by simp)) M.i,k:=?_ }
 (refine aF (M.k) fun es e1 e2=>?_)
 refine⟨es,K _ _ (off _ (by simp)) e1,?_⟩
 rcases e2 with e2 | ⟨T,j,e2,e3⟩
 ·exact .inl e2
 ·exact .inr ⟨T,j,e2,K _ _ (fun q=>h' T q j e3) e3⟩
theorem WellAt.keep (h:WellAt σ W N ns k) (K:Keep σ σ'):WellAt σ' W N ns k:=by
 (refine dL h fun p c a1 a2 a3 a4 a5=>?_;clear h)
 exact⟨p,c,K _ _ a1,a2,a3,K _ _ a4,a5⟩
theorem Mach.drawn {k:Nat} (M:Mach D σ I S) (H:WellAt σ W N ns k) (K:KeptBut [W] σ σ'):Mach D σ' I S :=
 M.kept K (fun i hi=>by simp at hi;subst hi;exact H.off M) (fun i hi j q=>by simp at hi;subst hi;(refine ci H fun p c a1 _=>?_;clear H);rw[a1] at q;cases q)
theorem AK (h:σ[W]? = some a):W≠σ.length:=Nat.ne_of_lt (am h)
theorem Mach.setL (M:Mach D σ I S) (hW:σ[W]? = some (.list xs)) (h:W ∉ I.all):Mach D (σ.set W a) I S :=
 M.kept (is:=[W]) (KeptBut.set (by simp) (.refl _)) (fun i hi=>by simp at hi;subst hi;exact h) (fun i hi j q=>by simp at hi;subst hi;rw[hW] at q;cases q)
theorem mJ (ns:List Int):∀k:Nat,(List.replicate k (ns.map AV.int)).flatten=((List.replicate k ns).flatten).map AV.int
 | 0=>rfl
 | k+1=>by rw[List.replicate_succ,List.flatten_cons,mJ ns k,List.replicate_succ,List.flatten_cons,List.map_append]
theorem lI {K:AV→List AO→Prop} (hi:σ[i]? = some (.list (ns.map .int))) (h1 : -1000≤n) (h2:n≤1000) (hl:ns.length≤10) (k:K (.dyn σ.length) (σ++[.list (((List.replicate n.toNat ns).flatten).map .int)])):ib G C σ (binaryOp .Mult) (.dyn i) (.int n) K:=by
 rw[← mJ] at k
 refine o2 (fun _=>lr hi (Int.le_of_lt (Int.lt_of_lt_of_le (by decide) h1)) (Int.lt_of_le_of_lt h2 (by decide)) ?_) k
 have:ns.length*n.toNat≤10*1000:=Nat.mul_le_mul hl (by lia)
 simpa using Nat.le_trans this (by simp)
theorem qS {ns ms:List Int} {K:AV→List AO→Prop} (hi:σ[i]? = some (.list (ns.map .int))) (hj:σ[j]? = some (.list (ms.map .int))) (hz:ns.length+ms.length≤16777216) (k:K (.dyn σ.length) (σ++[.list ((ns++ms).map .int)])):ib G C σ (binaryOp .Add) (.dyn i) (.dyn j) K:=by
 rw[List.map_append] at k
 exact o2 (fun _=>qz hi hj (by simpa using hz)) k
theorem dW {K:AV→List AO→Prop} (hi:σ[i]? = some (.list xs)) (hn:xs.length≤16777215) (k:K .none (σ.set i (.list (xs++[x])))):kd G C σ (.builtin "list.append") [.dyn i,x] K:=oc (fun _=>tO hi (by rw[sizeLine_eq];exact q1 0 16777215 0 16777216 hn rfl)) k
theorem gb {K:AV→List AO→Prop} (hn:C.n=some n) (hi:σ[i]? = some (.list xs)) (hj:σ[j]? = some (.list ys)) (h:AvEs xs ys r) (k:K (.bool r) σ):ib G C σ (compareOp .Eq) (.dyn i) (.dyn j) K:=⟨_,_,fun F c=>sV (c.rm n hn) hi hj h,k⟩
theorem gG {K:AV→List AO→Prop} (hn:C.n=some n) (hi:σ[i]? = some (.list xs)) (hj:σ[j]? = some (.list ys)) (h:xs.length≠ys.length) (k:K (.bool false) σ):ib G C σ (compareOp .Eq) (.dyn i) (.dyn j) K:=⟨_,_,fun F c=>nV (c.rm n hn) hi hj h,k⟩
theorem f9 {K:AV→List AO→Prop} (hn:C.n=some n) (hi:σ[i]? = some (.list xs)) (hj:σ[j]? = some (.list ys)) (h:AvEs xs ys r) (k:K (.bool (!r)) σ):ib G C σ (compareOp .NotEq) (.dyn i) (.dyn j) K:=⟨_,_,fun F c=>sS (c.rm n hn) hi hj h,k⟩
theorem eS {K:AV→List AO→Prop} (hn:C.n=some n) (hi:σ[i]? = some (.list xs)) (hj:σ[j]? = some (.list ys)) (h:xs.length≠ys.length) (k:K (.bool true) σ):ib G C σ (compareOp .NotEq) (.dyn i) (.dyn j) K:=⟨_,_,fun F c=>nS (c.rm n hn) hi hj h,k⟩
theorem tE {ns ms:List Int} {K:AV→List AO→Prop} (hn:C.n=some n) (hi:σ[i]? = some (.list (ns.map .int))) (hj:σ[j]? = some (.list (ms.map .int))) (h:ns.length=ms.length) (k:K (.bool (!(ns==ms))) σ):ib G C σ (compareOp .NotEq) (.dyn i) (.dyn j) K:=f9 hn hi hj (qp h) k
theorem tF {ys:List Str} {K:AV→List AO→Prop} (hi:σ[i]? = some (.list (ys.map .str))) (k:K (.bool (ys.any (·==x))) σ):ib G C σ (compareOp .In) (.str x) (.dyn i) K:=o2 (fun _=>sU hi) k
theorem fw {K:AV→List AO→Prop} (k:K (.dyn σ.length) (σ++[.rng 0 n])):kd G C σ (.type "range") [.int n] K:=oc (fun _=>wv) k
theorem qR {K:AV→List AO→Prop} (W:Wd G D gt bt) (hi:σ[i]? = some (.exc D.trap j b)) (hj:σ[j]? = some (.ns [("word",.str w),("at",.int a)])) (k:K (.str w) σ):qA G C σ (fun o=>getAttr o (Str.ofString "word") true) (.dyn i) K :=
 o1 (fun _=>lx (a := .str w) W.trapC hi hj (by simp only[List.lookup_cons,bG,String.reduceBEq]) rfl (W.trapNo "__getattribute__" (by simp)) (W.trapNo "__getattr__" (by simp)) (W.trapNo "word" (by simp)) rh) k
theorem pL {K:AV→List AO→Prop} (W:Wd G D gt bt) (hi:σ[i]? = some (.exc D.trap j b)) (hj:σ[j]? = some (.ns [("word",.str w),("at",.int a)])) (k:K (.int a) σ):qA G C σ (fun o=>getAttr o (Str.ofString "at") true) (.dyn i) K :=
 o1 (fun _=>lx (a := .int a) W.trapC hi hj (by simp only[List.lookup_cons,bG,String.reduceBEq]) rfl (W.trapNo "__getattribute__" (by simp)) (W.trapNo "__getattr__" (by simp)) (W.trapNo "at" (by simp)) yF) k
end
section
variable {G:Gd} {D:Ad} {gt bt:List (Str×AV)} {A:Around} {σ σ' σ₁ σ₂:List AO} {C:Cx} {lv:List (Str×AV)}
theorem vq:wJ G A σ (unaryOp .Not) (.bool b) (.bool (!b)) σ:=fun π s v S hv Q E hq=>by
 cases hv
 exact bn (not_value (wpAny_truthy_bool (hq π s _ S S.same rfl)))
theorem iB {lo hi:Option Int} {K:AV→List AO→Prop} (hi':σ[i]? = some (.list (ns.map .int))) (hj:σ[j]? = some (.slc lo hi)) (hz:ns.length≤16777216)
  (hs:∀o i,subscripted slice false o i=operate [i,o] (getItem o i)) (k:K (.dyn σ.length) (σ++[.list ((cut ns lo hi).map .int)])):lj G C σ slice (.dyn i) (.dyn j) K:=by
 rw[← kq] at k
 exact xe (fun _=>lh hi' hj (by simpa using hz) hs) k
theorem dv {K:AV→List AV→Prop} (hi:σ[i]? = some (.list xs)) (k:K (.builtin "list.append") [.dyn i]):pC G C σ (.dyn i) "append" K:=og (fun _=>s7 hi) k
theorem bR (i:Nat) (h:cs[i]? = some (Str.ofString x)) (hd:cs.Nodup):(bi cs n).lookup (Str.ofString x)=some (n+i):=gW hd h
def TabOk (σ:List AO) (T:Nat) (P:Addr) (pos:Pos) (q:Str):Prop:=∃ts,σ[T]? = some (.tab P ts)∧(ts=[]∨∃k,ts=[((pos.line:Int),(pos.col:Int),k)]∧σ[k]? = some (.code q))
theorem l7:codeAmong pos (e8 π [((pos.line:Int),(pos.col:Int),k)])=some (.ref (π.a k)):=by
 unfold e8
 simp only[List.flatMap_cons,List.flatMap_nil,List.append_nil]
 unfold codeAmong
 show (if ((pos.line:Int)==(pos.line:Int) && (pos.col:Int)==(pos.col:Int))=true then some (Value.ref (π.a k)) else _)=_
 rw[if_pos (by simp)]
theorem dw {K:AV→List AO→Prop} (hT:TabOk σ T P pos (C.qual ++ "<lambda>"))
  (hdef:∀env,defaultsOf params env=([],[])) (hcl:∀ (env:Env) (f:Nat→Addr),env.cells=C.cl.map (fun p=>(p.1,f p.2))→closureFor scope env=pure (cl.map fun p=>(p.1,f p.2))) (hcl2:∀p∈cl,p.2 < σ.length)
  (hg:G.g.Ns mainGlobals mg) (hgP:mainGlobals≠P) (hcode:C.code=some (.ref c)) (CH:CodeHd G.g c P) (hb:G.g.BuiltinsAt mg P)
  (k':∀i k σ',σ'[i]? = some (.lam params body scope (C.qual ++ "<lambda>") cl k)→σ'[k]? = some (.code (C.qual ++ "<lambda>"))→TabOk σ' T P pos (C.qual ++ "<lambda>")→KeptBut [T] σ σ'→K (.dyn i) σ'):cW G C lv σ (.Lambda params body scope pos) K:=by
 (refine aF hT fun ts h1 h2=>?_;clear hT)
 rcases h2 with rfl | ⟨k,rfl,h3⟩
 ·have hTn:T≠σ.length:=AK h1
  refine qL h1 hdef hcl hcl2 (fun π=>rfl) hg hgP hcode CH hb (k' _ σ.length _ (cE (k:=1) (by simp) rfl) (aj (by simp) rfl) ⟨_,ad (aU h1),.inr ⟨_,rfl,aj (by simp) rfl⟩⟩ (.app (.set (by simp) (.refl _))))
 ·have hTk:T≠k:=aO h1 h3 (by simp)
  exact qM h1 hdef hcl hcl2 (fun π=>l7) (am h3) hg hcode CH hb (k' _ k _ (uP rfl) (ad h3) ⟨_,ad h1,.inr ⟨k,rfl,ad h3⟩⟩ (.app (.refl _)))
theorem zO {lo hi:Option Int} {K:AV→List AO→Prop} (hl:G.g.PlainList a vs.toArray) (hv:∀π n,VRs π n (ns.map .int) vs) (hj:σ[j]? = some (.slc lo hi)) (hz:ns.length≤16777216)
  (hs:∀o i,subscripted slice false o i=operate [i,o] (getItem o i)) (k:K (.dyn σ.length) (σ++[.list ((cut ns lo hi).map .int)])):lj G C σ slice (.base a) (.dyn j) K:=by
 rw[← kq] at k
 refine xe (fun A=>fun value π s v u S hv' hu Q E hq=>?_) k
 cases hv'
 (refine bD hu fun _ zz2=>?_;clear hu;subst zz2)
 have hl':s.heap.PlainList a vs.toArray:=hl.at fun o e=>S.keepg _ _ e
 (refine cy (S.rep.at_ j _ hj) fun l u p₁ p₂ ho=>?_)
 have hsz:vs.toArray.size=ns.length:=by rw[VRs.size (hv π σ.length),List.length_map]
 refine bn (tail_any hl'.isList.typeIs slot_list_getitem.lookup (wpAny_getItem_list_slice hl'.isList ⟨_,ho,rfl,rfl⟩ (iq p₁) (iq p₂) .none (by simp) ?_ (by rw[hsz,sizeLine_eq];exact hz)) (hs _ _))
 rw[iG]
 exact kf (ao := .list (cut (ns.map .int) lo hi)) (k:=s.toks) S bw (aC _) (fun π' e e1=>⟨cut vs lo hi,⟨0,by rw[e1];exact Heap.get?_push_size _ rfl⟩,VRs.mono (All2.cut (hv π σ.length) lo hi) e (Nat.le_succ _)⟩) hq
end
section
variable {G:Gd} {D:Ad} {gt bt:List (Str×AV)} {A:Around} {σ σ' σ₁ σ₂:List AO} {C:Cx} {lv:List (Str×AV)} {I:MI} {S S':MSt}
theorem TabOk.keep (h:TabOk σ T P pos lq) (K:Keep σ σ'):TabOk σ' T P pos lq:=by
 (refine aF h fun ts h1 h2=>?_;clear h)
 refine⟨ts,K _ _ h1,?_⟩
 rcases h2 with h2 | ⟨k,h2,h3⟩
 ·exact .inl h2
 ·exact .inr ⟨k,h2,K _ _ h3⟩
theorem TabOk.kept (h:TabOk σ T P pos lq) (K:KeptBut is σ σ') (hT:T ∉ is) (hk:∀i∈is,∀q,σ[i]? ≠ some (.code q)):TabOk σ' T P pos lq:=by
 (refine aF h fun ts h1 h2=>?_;clear h)
 refine⟨ts,K _ _ hT h1,?_⟩
 rcases h2 with h2 | ⟨k,h2,h3⟩
 ·exact .inl h2
 ·exact .inr ⟨k,h2,K _ _ (fun q=>hk k q _ h3) h3⟩
theorem Mach.noCode (M:Mach D σ I S):∀i∈I.all,∀q,σ[i]? ≠ some (.code q):=fun i hi q h=>by
 refine M.mOff h (by simp) (by simp) (by simp) (by simp) hi
theorem Mach.newOff (M:Mach D σ I S) (hj:σ.length≤j):j ∉ I.all:=fun q=>by
 simp only[MI.all,lxm,lxn,or_false] at q
 (refine aF (M.k) fun es e1 _=>?_)
 rcases q with q | q | q | q | q | q<;>subst q
 ·exact absurd (am M.m) (Nat.not_lt.mpr hj)
 ·exact absurd (am M.me) (Nat.not_lt.mpr hj)
 ·exact absurd (am M.r) (Nat.not_lt.mpr hj)
 ·exact absurd (am M.o) (Nat.not_lt.mpr hj)
 ·exact absurd (am M.i) (Nat.not_lt.mpr hj)
 ·exact absurd (am e1) (Nat.not_lt.mpr hj)
def W124 (k:Nat):Prop:=k=1∨k=2∨k=4
theorem W124.le (h:W124 k):1≤k∧k≤4:=by rcases h with rfl | rfl | rfl<;>decide
theorem qO {K:AV→List AO→Prop} (h:W124 k) (q:K (.int ((256:Int) ^ k)) σ):ib G C σ (binaryOp .LShift) (.int 1) (.int (8*(k:Int))) K:=by
 refine o2 (fun _=>zq (by lia) (by have:=h.le;lia) (by decide)) ?_
 have:(1:Int)*2 ^ (8*(k:Int)).toNat=256 ^ k:=by rcases h with rfl | rfl | rfl<;>decide
 rw[this];exact q
theorem qQ {K:AV→List AO→Prop} (h:W124 k) (q:K (.int (v % (256:Int) ^ k)) σ):ib G C σ (binaryOp .BitAnd) (.int v) (.int ((256:Int) ^ k - 1)) K:=by
 refine o2 (fun _=>gu) ?_
 have:Builtin.bitAnd v ((256:Int) ^ k - 1)=v % (256:Int) ^ k:=by
  rcases h with rfl | rfl | rfl
  ·exact bitAnd_m8 v
  ·exact bitAnd_m16 v
  ·exact bitAnd_m32 v
 rw[this];exact q
theorem Bx {K:AV→List AO→Prop} (h:W124 k) (q:K (.bytes (cc (KTBy.little k (v % (256:Int) ^ k)))) σ):kd G C σ (.builtin "int.to_bytes") [.int (v % (256:Int) ^ k),.int (k:Int),.str "little"] K :=
 oc (fun _=>BB (by have:=h.le;exact q1 0 4 0 8 this.2 rfl) rfl (Int.emod_nonneg _ (by rcases h with rfl | rfl | rfl<;>decide)) (Int.emod_lt_of_pos _ (by rcases h with rfl | rfl | rfl<;>decide))) q
noncomputable def eY (mem:List UInt8) (p:Nat) (d:List UInt8):List UInt8:=mem.take p++d++mem.drop (p+d.length)
theorem pU (h:p+d.length≤mem.length):(eY mem p d).length=mem.length:=by
 unfold eY;simp;lia
theorem qo (h0:0≤p) (hk:(d.length:Int)=k) (h1:p+k≤b.length) :
  b.take (cL b.length (some p))++d++b.drop (max (cL b.length (some p)) (d9 b.length (some (p+k))))=eY b p.toNat d:=by
 unfold eY cL d9
 simp only[Option.elim]
 rw[clipAt_in h0 (oZ h1 (Int.le_of_eq hk) (Int.natCast_nonneg d.length)),clipAt_in (oZ h0 (Int.le_of_eq hk) (Int.natCast_nonneg d.length)) h1]
 congr 2
 lia
noncomputable def setL (mem:List Int) (p:Nat):List Int→List Int
 | []=>mem
 | d::ds=>setL (mem.set p d) (p+1) ds
theorem oL:∀ {ds mem:List Int} {p:Nat},(setL mem p ds).length=mem.length
 | [],_,_=>rfl
 | d::ds,mem,p=>by show (setL (mem.set p d) (p+1) ds).length=_;rw[oL];simp
theorem ng:∀ {ds mem:List Int} {p:Nat},p+ds.length≤mem.length→setL mem p ds=mem.take p++ds++mem.drop (p+ds.length)
 | [],mem,p,_=>by simp[setL]
 | d::ds,mem,p,h=>by
  have h':p+1+ds.length≤(mem.set p d).length:=by simp at h ⊢;exact lU h
  show setL (mem.set p d) (p+1) ds=_
  have hp:p < mem.length:=by simp at h;exact mI h (Nat.zero_le ds.length)
  rw[ng h',List.take_set,List.drop_set,if_pos (by exact Nat.le_add_right _ _)]
  have e1:(mem.take (p+1)).set p d=mem.take p++[d]:=by
   rw[List.take_add_one,List.getElem?_eq_getElem hp,Option.toList_some,List.set_append_right _ _ (by simp;exact Nat.min_le_left _ _)]
   simp[Nat.min_eq_left (Nat.le_of_lt hp)]
  rw[e1]
  simp[Nat.add_assoc,Nat.add_comm 1]
theorem sf (h:p+ds.length≤mem.length):cc (setL mem p ds)=eY (cc mem) p (cc ds):=by
 rw[ng h]
 unfold eY cc
 simp[List.map_take,List.map_drop]
theorem uf (h:p+ds.length≤mem.length) (h1:∀n∈mem,0≤n∧n < 256) (h2:∀n∈ds,0≤n∧n < 256):∀n∈setL mem p ds,0≤n∧n < 256:=fun n hn=>by
 rw[ng h] at hn
 rcases List.mem_append.mp hn with hn | hn
 ·rcases List.mem_append.mp hn with hn | hn
  ·exact h1 n (List.mem_of_mem_take hn)
  ·exact h2 n hn
 ·exact h1 n (List.mem_of_mem_drop hn)
theorem sm (hm:m=1∨m=256∨m=65536∨m=16777216) (v:Int):v % (256*m) % 256=v % 256∧v % (256*m) / 256=v / 256 % m:=by
 rcases hm with rfl | rfl | rfl | rfl
 ·exact⟨by simp,by lia⟩
 ·exact⟨by simp,by lia⟩
 ·exact⟨by simp,by lia⟩
 ·exact⟨by simp,by lia⟩
theorem Cp:∀k < 4,(256:Int) ^ k=1∨(256:Int) ^ k=256∨(256:Int) ^ k=65536∨(256:Int) ^ k=16777216:=by decide
theorem mC:∀ (k:Nat) (v:Int),k≤4→KTBy.little k (v % (256:Int) ^ k)=KTBy.little k v
 | 0,_,_=>rfl
 | k+1,v,h=>by
  obtain⟨h1,h2⟩:=sm (Cp k h) v
  rw[Int.pow_succ,Int.mul_comm]
  show v % (256*256 ^ k) % 256::KTBy.little k (v % (256*256 ^ k) / 256)=v % 256::KTBy.little k (v / 256)
  rw[h1,h2,mC k (v / 256) (Nat.le_of_succ_le h)]
theorem pZ (h:W124 k):KTBy.little k (v % (256:Int) ^ k)=KTBy.little k v:=mC k v h.le.2
theorem kR:∀ {k:Nat} {v:Int},∀n∈KTBy.little k v,0≤n∧n < 256
 | 0,_,n,h=>by cases h
 | k+1,v,n,h=>by
  rcases List.mem_cons.mp h with rfl | h
  ·exact⟨Int.emod_nonneg _ (by decide),Int.emod_lt_of_pos _ (by decide)⟩
  ·exact kR n h
noncomputable def ow:List Int→Int
 | []=>0
 | n::ns=>n+256*ow ns
theorem oR (h:0≤n∧n < 256):((n.toNat.toUInt8).toNat:Int)=n:=by
 simp only[Nat.toUInt8_eq,UInt8.toNat_ofNat']
 lia
theorem rj:∀ {ns:List Int},(∀n∈ns,0≤n∧n < 256)→By.le (cc ns)=ow ns
 | [],_=>rfl
 | n::ns,h=>by
  show ((n.toNat.toUInt8).toNat:Int)+256*By.le (cc ns)=_
  rw[oR (h n (List.mem_cons_self ..)),rj fun m hm=>h m (List.mem_cons_of_mem _ hm)];rfl
theorem rM:∀ (ns:List Int),ns.reverse.foldl (fun t o=>t*256+o) 0=ow ns:=fun ns=>by
 rw[List.foldl_reverse]
 induction ns with
 | nil=>rfl
 | cons n ns ih=>rw[List.foldr_cons,ih];show ow ns*256+n=n+256*ow ns;lia
structure LSt where
 base:Int
 mem:List Int
 regs:List Int
 pc:Int
 out:List Int
 inp:List Int
 done:Bool
structure LI where
 d:Nat
 mm:Nat
 rr:Nat
 oo:Nat
 ii:Nat
noncomputable abbrev sd (J:LI) (L:LSt):List (Str×AV):=[("base",.int L.base),("memory",.dyn J.mm),("registers",.dyn J.rr),("pc",.int L.pc),("output",.dyn J.oo),("input",.dyn J.ii),("done",.bool L.done)]
noncomputable abbrev LI.all (J:LI):List Nat:=[J.d,J.mm,J.rr,J.oo]
variable {J J':LI} {L L':LSt}
structure LAt (G:Gd) (σ:List AO) (J:LI) (L:LSt):Prop where
 d:σ[J.d]? = some (.sdict G.w (sd J L))
 mm:σ[J.mm]? = some (.list (L.mem.map .int))
 rr:σ[J.rr]? = some (.list (L.regs.map .int))
 oo:σ[J.oo]? = some (.list (L.out.map .int))
 ii:σ[J.ii]? = some (.list (L.inp.map .int))
 n1:J.mm≠J.rr
 n2:J.mm≠J.oo
 n3:J.rr≠J.oo
 m1:J.mm≠J.ii
 m2:J.rr≠J.ii
 m3:J.oo≠J.ii
theorem LAt.nd (h:LAt G σ J L):J.d≠J.mm∧J.d≠J.rr∧J.d≠J.oo∧J.d≠J.ii:=⟨aO h.d h.mm (by simp),aO h.d h.rr (by simp),aO h.d h.oo (by simp),aO h.d h.ii (by simp)⟩
theorem LAt.kept (h:LAt G σ J L) (K:KeptBut is σ σ') (h1:∀j∈J.all,j ∉ is) (h2:J.ii ∉ is):LAt G σ' J L :=
 { h with d:=K _ _ (h1 _ (by simp)) h.d,mm:=K _ _ (h1 _ (by simp)) h.mm,rr:=K _ _ (h1 _ (by simp)) h.rr,oo:=K _ _ (h1 _ (by simp)) h.oo,ii:=K _ _ h2 h.ii }
theorem LAt.keep (h:LAt G σ J L) (K:Keep σ σ'):LAt G σ' J L:=h.kept (is:=[]) (.of K _) (by simp) (by simp)
theorem LAt.setMem (h:LAt G σ J L):LAt G (σ.set J.mm (.list (m.map .int))) J { L with mem:=m }:=by
 (refine fY (h.nd) fun d1 d2 d3 d4=>?_)
 exact⟨ah d1.symm h.d,aU h.mm,ah h.n1 h.rr,ah h.n2 h.oo,ah h.m1 h.ii,h.n1,h.n2,h.n3,h.m1,h.m2,h.m3⟩
theorem LAt.setRegs (h:LAt G σ J L):LAt G (σ.set J.rr (.list (m.map .int))) J { L with regs:=m }:=by
 (refine fY (h.nd) fun d1 d2 d3 d4=>?_)
 exact⟨ah d2.symm h.d,ah h.n1.symm h.mm,aU h.rr,ah h.n3 h.oo,ah h.m2 h.ii,h.n1,h.n2,h.n3,h.m1,h.m2,h.m3⟩
theorem LAt.setOut (h:LAt G σ J L):LAt G (σ.set J.oo (.list (m.map .int))) J { L with out:=m }:=by
 (refine fY (h.nd) fun d1 d2 d3 d4=>?_)
 exact⟨ah d3.symm h.d,ah h.n2.symm h.mm,ah h.n3.symm h.rr,aU h.oo,ah h.m3 h.ii,h.n1,h.n2,h.n3,h.m1,h.m2,h.m3⟩
theorem LAt.setD (h:LAt G σ J L) (e:es=sd J L') (e1:L'.mem=L.mem) (e2:L'.regs=L.regs) (e3:L'.out=L.out) (e4:L'.inp=L.inp):LAt G (σ.set J.d (.sdict G.w es)) J L':=by
 (refine fY (h.nd) fun d1 d2 d3 d4=>?_)
 subst e
 exact⟨aU h.d,e1 ▸ ah d1 h.mm,e2 ▸ ah d2 h.rr,e3 ▸ ah d3 h.oo,e4 ▸ ah d4 h.ii,h.n1,h.n2,h.n3,h.m1,h.m2,h.m3⟩
theorem LAt.setI (h:LAt G σ J L) (hi:σ[i]? = some (.list (ns.map .int))) (h1:J.mm≠i) (h2:J.rr≠i) (h3:J.oo≠i) (e:es=sd { J with ii:=i } { L with inp:=ns }):LAt G (σ.set J.d (.sdict G.w es)) { J with ii:=i } { L with inp:=ns }:=by
 (refine fY (h.nd) fun d1 d2 d3 d4=>?_)
 subst e
 exact⟨aU h.d,ah d1 h.mm,ah d2 h.rr,ah d3 h.oo,ah (aO h.d hi (by simp)) hi,h.n1,h.n2,h.n3,h1,h2,h3⟩
theorem cO:lk (sd J L) (Str.ofString "base")=some (.int L.base):=by rfl
theorem dz:lk (sd J L) (Str.ofString "memory")=some (.dyn J.mm):=by rfl
theorem cm:lk (sd J L) (Str.ofString "registers")=some (.dyn J.rr):=by rfl
theorem jg:lk (sd J L) (Str.ofString "pc")=some (.int L.pc):=by rfl
theorem mB:lk (sd J L) (Str.ofString "output")=some (.dyn J.oo):=by rfl
theorem gX:lk (sd J L) (Str.ofString "input")=some (.dyn J.ii):=by rfl
theorem iv:lk (sd J L) (Str.ofString "done")=some (.bool L.done):=by rfl
theorem yt:st (sd J L) (Str.ofString "pc") (.int v)=sd J { L with pc:=v }:=by rfl
theorem wY:st (sd J L) (Str.ofString "done") (.bool v)=sd J { L with done:=v }:=by rfl
theorem ub:st (sd J L) (Str.ofString "input") (.dyn i)=sd { J with ii:=i } { L with inp:=ns }:=by rfl
noncomputable def yT (v:Int):Int:=(v+2147483648) % 4294967296 - 2147483648
theorem xa (h:0≤v∧v < 4294967296):w8 v=yT v:=by unfold w8 yT;split<;>lia
structure Ag (S:MSt) (L:LSt):Prop where
 base:S.base=L.base
 mem:S.mem=cc L.mem
 mr:∀n∈L.mem,0≤n∧n < 256
 regs:S.regs=L.regs
 rr:∀n∈L.regs,0≤n∧n < 4294967296
 pc:S.pc=L.pc
 out:S.out=cc L.out
 or:∀n∈L.out,0≤n∧n < 256
 done:S.done=L.done
 tk:0≤S.taken
 tl:S.taken≤S.inp.length
 inp:cc L.inp=S.inp.drop S.taken.toNat
 ir:∀n∈L.inp,0≤n∧n < 256
 b0:0≤S.base
 bs:S.base+S.size≤4294967295
 sz:S.size≤1000
 st:L.done=true→S.status=yT (L.regs.getD 10 0)
structure LAd where
 fn:Nat→Addr
 cd:Nat→Addr
 tab:Nat→Addr
noncomputable abbrev uH:List String:=["_law_draw", "_law_where", "_law_faults", "_law_weighed", "_law_outer", "_law_stands", "_law_told", "_law_agrees", "_law_stored", "_law_loaded", "_law_row_read", "_law_register_put", "_law_called", "_law_jumped", "_law_deeds_right", "_law_state", "_law_walk", "_law_run_right", "_law_no_room", "law"]
noncomputable abbrev uG:List Str:=["_law_draw", "_law_where", "_law_faults", "_law_weighed", "_law_outer", "_law_stands", "_law_told", "_law_agrees", "_law_stored", "_law_loaded", "_law_row_read", "_law_register_put", "_law_called", "_law_jumped", "_law_deeds_right", "_law_state", "_law_walk", "_law_run_right", "_law_no_room", "law"]
noncomputable def iJ (i:Nat) (q:Str) (pm:Value) (cd:Addr):FuncData:=dF (dD (61+i)) q pm cd
noncomputable abbrev yJ:List (Nat×Str):=[(8, "_law_stored"),(9, "_law_loaded"),(10, "_law_row_read"),(12, "_law_called"),(13, "_law_jumped"),(17, "_law_run_right"),(18, "_law_no_room")]
noncomputable def za (i:Nat):Pos:=([⟨341,22,341,66⟩,⟨351,33,351,69⟩,⟨357,33,357,73⟩,⟨370,22,370,48⟩,⟨378,22,378,50⟩,⟨437,22,437,47⟩,⟨441,22,441,90⟩]:List Pos).getD i ⟨0,0,0,0⟩
noncomputable def CB (i:Nat):Str:=(([(8, "_law_stored"),(9, "_law_loaded"),(10, "_law_row_read"),(12, "_law_called"),(13, "_law_jumped"),(17, "_law_run_right"),(18, "_law_no_room")]:List (Nat×Str)).getD i (0, "")).2 ++ ".<locals>." ++ "<lambda>"
structure Law (G:Gd) (Q:LAd) (gt:List (Str×AV)):Prop where
 fD:∀ (i:Nat) q,uG[i]? = some q→∃pm cd,DefAt G (Q.fn i) (iJ i q pm cd)
 lD:∀ (t i:Nat) q,yJ[t]? = some (i,q)→∃pm,DefAt G (Q.fn i) (iJ i q pm (Q.cd t))
 gN:∀ (i:Nat) x,uH[i]? = some x→gt.lookup (Str.ofString x)=some (.base (Q.fn i))
 gAll:gt.lookup (Str.ofString "_law_all")=some (.int 4294967296)
 lim:G.g.NoLimit
 tabP:∀t,t < 7→mainGlobals≠Q.tab t
 hd:∀t,t < 7→CodeHd G.g (Q.cd t) (Q.tab t)
 glob:∃mg,G.g.Ns mainGlobals mg∧∀t,t < 7→G.g.BuiltinsAt mg (Q.tab t)
def Tabs (Q:LAd) (σ:List AO):Prop:=∀t,t < 7→TabOk σ t (Q.tab t) (za t) (CB t)
theorem Tabs.keep (h:Tabs Q σ) (K:Keep σ σ'):Tabs Q σ':=fun t ht=>(h t ht).keep K
theorem Tabs.kept (h:Tabs Q σ) (K:KeptBut is σ σ') (h1:∀t,t < 7→t ∉ is) (h2:∀i∈is,∀q,σ[i]? ≠ some (.code q)):Tabs Q σ':=fun t ht=>(h t ht).kept K (h1 t ht) h2
theorem Tabs.made (h:Tabs Q σ) (ht:t < 7) (K:KeptBut [t] σ σ') (h1:TabOk σ' t (Q.tab t) (za t) (CB t)):Tabs Q σ':=fun u hu=>by
 by_cases e:u=t
 ·subst e;exact h1
 ·refine(h u hu).kept K (by simpa using e) fun i hi q hq=>?_
  simp only[lxm,lxn,or_false] at hi
  subst hi
  (refine aF (h _ ht) fun ts h3 _=>?_)
  rw[h3] at hq;cases hq
end
section
variable {G:Gd} {D:Ad} {gt bt:List (Str×AV)} {A:Around} {σ σ' σ₁ σ₂:List AO} {C:Cx} {lv:List (Str×AV)} {I:MI} {S S':MSt} {J J':LI} {L L':LSt}
noncomputable def dl (L:LSt):Option LSt :=
 if L.regs.getD 17 0=93 then some { L with done:=true }
 else if L.regs.getD 17 0=1 then some { L with out:=L.out++[L.regs.getD 10 0 % 256] }
 else if L.regs.getD 17 0=2 then some { L with regs:=L.regs.set 10 (if L.inp=[] then 4294967296 - 1 else L.inp.getD 0 0),inp:=L.inp.drop 1 }
 else none
theorem fB (h:dl L=some L'):L'.base=L.base∧L'.mem=L.mem∧L'.pc=L.pc∧L'.out.length≤L.out.length+1∧L'.regs.length=L.regs.length:=by
 unfold dl at h
 split at h
 ·cases h;simp
 ·split at h
  ·cases h;simp
  ·split at h
   ·cases h;simp
   ·cases h
theorem kW {rs:List Int} (hB:0 < B) (h:∀n∈rs,0≤n∧n < B) (i:Nat):0≤rs.getD i 0∧rs.getD i 0 < B:=by
 rw[List.getD_eq_getElem?_getD]
 cases q:rs[i]? with
 | none=>simp;assumption
 | some x=>exact h x (List.mem_of_getElem? q)
theorem jc {rs:List Int} {P:Int→Prop} (h:∀n∈rs,P n) (hx:P x):∀n∈rs.set i x,P n:=fun n hn=>by
 rcases List.mem_or_eq_of_mem_set hn with q | q
 ·exact h n q
 ·rw[q];exact hx
theorem Ag.outer (g:Ag S L) (h32:S.regs.length=32):(∃S' L',dB S=some S'∧dl L=some L'∧(L.done=false→Ag S' L'))∨(dB S=none∧dl L=none):=by
 have er:=g.regs
 unfold dB dl
 rw[er]
 by_cases c1:L.regs.getD 17 0=93
 ·rw[if_pos c1,if_pos c1]
  exact .inl ⟨_,_,rfl,rfl,fun hd=>{ g with regs:=rfl,done:=rfl,st:=fun _=>xa (kW (by decide) g.rr 10) }⟩
 ·rw[if_neg c1,if_neg c1]
  by_cases c2:L.regs.getD 17 0=1
  ·rw[if_pos c2,if_pos c2]
   refine .inl ⟨_,_,rfl,rfl,fun hd=>{ g with regs:=rfl,out:=?_,or:=?_,st:=fun q=>?_ }⟩
   ·show S.out++_=cc (L.out++_);rw[kJ,g.out];rfl
   ·intro n hn
    rcases List.mem_append.mp hn with q | q
    ·exact g.or n q
    ·simp at q;subst q;exact⟨Int.emod_nonneg _ (by decide),Int.emod_lt_of_pos _ (by decide)⟩
   ·have:L.done=true:=q;rw[hd] at this;cases this
  ·rw[if_neg c2,if_neg c2]
   by_cases c3:L.regs.getD 17 0=2
   ·rw[if_pos c3,if_pos c3]
    have hset:putReg L.regs 10 (if S.taken < S.inp.length then ((S.inp.getD S.taken.toNat 0).toNat:Int) else -1)=L.regs.set 10 (if L.inp=[] then 4294967296 - 1 else L.inp.getD 0 0)∧(0≤(if L.inp=[] then (4294967296 - 1:Int) else L.inp.getD 0 0)∧(if L.inp=[] then (4294967296 - 1:Int) else L.inp.getD 0 0) < 4294967296) ∧
      cc (L.inp.drop 1)=S.inp.drop (min (S.taken+1) (S.inp.length:Int)).toNat:=by
     have tk:=g.tk
     have tl:=g.tl
     have gi:=g.inp
     unfold putReg
     rw[if_neg (by decide)]
     cases hi:L.inp with
     | nil =>
      rw[hi] at gi
      have:S.inp.length≤S.taken.toNat:=by
       have:=congrArg List.length gi
       simp[cc] at this
       lia
      rw[if_neg (Int.not_lt.mpr (nC (Int.ofNat_le.mpr this) (Int.le_of_eq (Int.toNat_of_nonneg tk)))),if_pos rfl]
      refine⟨rfl,by decide,?_⟩
      exact(List.drop_eq_nil_of_le (by lia)).symm
     | cons x xs =>
      rw[hi] at gi
      have hlt:S.taken.toNat < S.inp.length:=by
       have:=congrArg List.length gi
       simp[cc] at this
       lia
      rw[if_pos (by exact nC (Int.le_of_eq (Int.toNat_of_nonneg tk).symm) (Int.ofNat_lt.mpr hlt)),if_neg (by simp)]
      have hx:=g.ir x (by rw[hi];simp)
      rw[List.drop_eq_getElem_cons hlt] at gi
      have g1:x.toNat.toUInt8=S.inp[S.taken.toNat]:=(List.cons.inj gi).1
      have g2:cc xs=S.inp.drop (S.taken.toNat+1):=(List.cons.inj gi).2
      have g3:((S.inp.getD S.taken.toNat 0).toNat:Int)=x:=by
       rw[List.getD_eq_getElem?_getD,List.getElem?_eq_getElem hlt,Option.getD_some,← g1,oR hx]
      refine⟨?_,?_,?_⟩
      ·rw[g3];show L.regs.set (10:Int).toNat (x % 4294967296)=L.regs.set 10 x;rw[Int.emod_eq_of_lt hx.1 (Int.lt_of_lt_of_le hx.2 (by decide))];rfl
      ·show 0≤x∧x < _;exact⟨hx.1,Int.lt_of_lt_of_le hx.2 (by decide)⟩
      ·show cc xs=_;rw[g2];congr 1;lia
    (refine dA hset fun q1 q2 q3=>?_;clear hset)
    have tk:=g.tk
    refine .inl ⟨_,_,rfl,rfl,fun hd=>{ g with regs:=q1,rr:=jc g.rr q2,tk:=?_,tl:=?_,inp:=q3,ir:=fun n hn=>g.ir n (List.mem_of_mem_drop hn),st:=fun q=>?_ }⟩
    ·show 0≤min (S.taken+1) (S.inp.length:Int);lia
    ·exact Int.min_le_right ..
    ·have:L.done=true:=q;rw[hd] at this;cases this
   ·rw[if_neg c3,if_neg c3]
    exact .inr ⟨rfl,rfl⟩
structure Cd (L:LSt) (c r t:Nat):Prop where
 mem:L.mem=c6 c++List.replicate r 0
 c5:c≤5
 pc:L.pc=L.base+4*t
 tc:t≤c
 al:L.base % 4=0
noncomputable def cJ (c:Nat):Nat→LSt→(Str×Int)×LSt
 | 0,L=>if L.done=true then (("",yT (L.regs.getD 10 0)),L) else (("steps",L.pc),L)
 | n+1,L =>
  if L.done=true then (("",yT (L.regs.getD 10 0)),L)
  else if ¬ (L.base≤L.pc∧L.pc+4≤L.base+L.mem.length) then (("memory",L.pc),L)
  else if L.base+4*c≤L.pc then (("illegal",L.pc),L)
  else match dl L with
   | none=>(("ecall",L.pc),L)
   | some L'=>cJ c n { L' with pc:=L'.pc+4 }
variable {c r t:Nat}
theorem Cd.len (h:Cd L c r t):L.mem.length=4*c+r:=by rw[h.mem,List.length_append,eV,List.length_replicate]
theorem Ag.inMem (g:Ag S L) (hl:(S.mem.length:Int)=S.size) (a n:Int):inMem S a n↔L.base≤a∧a+n≤L.base+L.mem.length:=by
 have:(S.mem.length:Int)=L.mem.length:=by rw[g.mem,bN]
 unfold Mine.inMem
 rw[g.base]
 omega
theorem Ag.word (g:Ag S L) (h:Cd L c r t) (hl:(S.mem.length:Int)=S.size) (hm:Mine.inMem S S.pc 4):d0 S S.pc=if t < c then 115 else 0:=by
 have e:S.pc - S.base=4*t:=by rw[g.pc,g.base,h.pc];lia
 have hlen:S.mem.length=4*c+r:=by rw[g.mem,bN,h.len]
 have hm':=hm
 unfold Mine.inMem at hm'
 rw[e] at hm'
 have hc:cut S.mem (some (4*(t:Int))) (some (4*(t:Int)+4))=(S.mem.drop (4*t)).take 4:=by
  rw[uT (by lia) (by simp) (Int.le_trans hm'.2 (Int.le_of_eq hl.symm))]
  congr 2
 unfold d0
 rw[e,hc,g.mem,h.mem,uu]
 split
 ·rename_i h'
  exact rQ h' h.c5
 ·have:=h.tc
  obtain rfl:t=c:=by lia
  exact rP (Int.ofNat_le.mp (oZ (Int.ofNat_le.mpr (Nat.le_of_eq hlen)) hm'.2 (Int.le_of_eq hl.symm) (by simp +arith only[Int.natCast_add,Int.natCast_mul,Int.cast_ofNat_Int])))
theorem Ag.stepped (g:Ag S L) (h:Cd L c r t) (hl:(S.mem.length:Int)=S.size) (h32:S.regs.length=32) (hd:L.done=false) (hm:Mine.inMem S S.pc 4) (ht:t < c) :
  (∃S' L',jY S=some S'∧dl L=some L'∧Ag S' { L' with pc:=L'.pc+4 }∧Cd { L' with pc:=L'.pc+4 } c r (t+1))∨(jY S=none∧dl L=none):=by
 rcases g.outer h32 with⟨S',L',e1,e2,e3⟩ | ⟨e1,e2⟩
 ·(refine gq (fB e2) fun f1 f2 f3 f4 f5=>?_)
  (refine gm (iW e1) fun k1 k2 k3 k4 k5 k6=>?_)
  have g':=e3 hd
  refine .inl ⟨{ S' with pc:=(S.pc+4) % 4294967296,steps:=S.steps+1 },L',by unfold jY kS;rw[e1];rfl,e2,{ g' with pc:=?_ },⟨by rw[← h.mem,← f2],h.c5,?_,ht,by show L'.base % 4=0;rw[f1];exact h.al⟩⟩
  ·show (S.pc+4) % 4294967296=L'.pc+4
   have:=g.bs
   have:=g.b0
   unfold Mine.inMem at hm
   rw[f3,← g.pc]
   have hp:=h.pc
   have:=g.pc
   have:=g.base
   lia
  ·show L'.pc+4=L'.base+4*((t+1:Nat):Int)
   rw[f3,f1,h.pc];exact Int.le_antisymm (A2 (by simp +arith only[Int.natCast_add,Int.cast_ofNat_Int])) (A2 (by simp +arith only[Int.natCast_add,Int.cast_ofNat_Int]))
 ·exact .inr ⟨by unfold jY kS;rw[e1];rfl,e2⟩
theorem Ag.store (g:Ag S L) (hw:W124 w) (h1:L.base≤a) (h2:a+w≤L.base+L.mem.length) :
  Ag { S with mem:=eY S.mem (a - S.base).toNat (cc (KTBy.little w (v % (256:Int) ^ w))) } { L with mem:=setL L.mem ((a - L.base).toNat+0) (KTBy.little w (v / 256 ^ 0)) }:=by
 have e:KTBy.little w (v % (256:Int) ^ w)=KTBy.little w (v / 256 ^ 0):=by rw[pZ hw];simp
 have hl:(a - L.base).toNat+0+(KTBy.little w (v / 256 ^ 0)).length≤L.mem.length:=by rw[KTBy.little_length];exact Int.ofNat_le.mp (nC (Int.le_of_eq (Int.toNat_of_nonneg (jk h1:0≤a - L.base))) h2 (by simp +arith only[Int.natCast_add]))
 exact { g with mem:=(by
  show eY S.mem (a - S.base).toNat (cc (KTBy.little w (v % (256:Int) ^ w)))=cc (setL L.mem ((a - L.base).toNat+0) (KTBy.little w (v / 256 ^ 0)))
  rw[sf hl,e,g.mem,g.base];rfl),mr:=uf hl g.mr kR }
end
section
set_option maxHeartbeats 4000000
variable {G:Gd} {D:Ad} {Z:DAd} {gt bt:List (Str×AV)} {σ:List AO} {C:Cx} {lv:List (Str×AV)} {I:MI} {S:MSt}
noncomputable abbrev Cg:List Str:=["self", "address", "width", "value", "place", "low"]
theorem ua (hk:W124 k) (W:Wd G D gt bt) (L:Gl gt bt D) (M:Mach D σ I S) (hb:S.mem.length≤1000000) :
  CtP G 5 σ (.base (D.m 4)) [.dyn I.m,.int a,.int (k:Int),.int v] (fun r σ'=>(a % k=0∧inMem S a k)∧r = .none∧Mach D σ' I { S with mem:=eY S.mem (a - S.base).toNat (cc (KTBy.little k (v % (256:Int) ^ k))) }∧KeptBut [I.me] σ σ')
   (fun i σ'=>(∃w,dH D σ' i w S.pc∧((w = "align" ∧ a % k≠0)∨(w = "memory" ∧ a % k=0∧¬inMem S a k)))∧Keep σ σ'):=by
 (refine bC (W.machD 4 _ rfl) fun pm cd DD=>?_)
 have B:=W.B
 have hm:=M.m
 have hme:=M.me
 have hlen:=M.len
 have hk1:=hk.le
 have ho:(cc (KTBy.little k (v % (256:Int) ^ k))).length=k:=by rw[bN,KTBy.little_length]
 refine ch ["self", "address", "width", "value"] Cg [] ["place", "low"] 4 DD (by kernel_rfl) rfl (so fun _ _ _ _=>rfl) rfl (by(simp only[lxp,lxq,lxr,lxs,lxt,bV,bU];rfl)) ?_
 (refine b5 rfl<|bq<|aa rfl ?_;apply zR;assumption;assumption;exact rfl;refine ai rfl<|ai rfl<|ac ?_;refine⟨ok fun _=>by(apply di;(assumption);(exact rfl)),?_⟩;dsimp only[bU,bV])
 refine bj (CtP.imp (je (n:=(k:Int)) W L.exc L.trap hm (by simp only[put,aN,List.lookup_cons,bG,String.reduceBEq,String.reduceEq,reduceIte,List.lookup_nil]) rfl rfl rfl (Int.lt_of_lt_of_le (by decide) (Int.ofNat_le.mpr hk1.1))) (fun r σ' qq0=>?_) (fun i σ' q=>q)) rfl (by decide)
 (refine dA qq0 fun q1 q2 q3=>?_;clear qq0)
 subst q2 q3
 (refine cV rfl<|aA rfl<|aX rfl<|aG<|aG<|bf<|aG<|bf<|aa rfl<|o2 (fun _=>fO (cF (Int.lt_of_lt_of_le (by decide) (Int.ofNat_le.mpr hk1.1)) (Int.lt_of_le_of_lt (Int.ofNat_le.mpr hk1.2) (by decide))))<|qO ‹_›<|i2 (fun _=>cC)<|qQ ‹_›<|fx rfl<|aA rfl<|em<|aa rfl ?_;(with_reducible refine og (fun _=>Bt) ?_);refine ai rfl<|bx<|ac<|aB ?_;dsimp only[bU,bV];refine Bx ‹_›<|ck<|cN rfl ‹_› ‹_› rfl<|fq<|aa rfl ?_;refine⟨_,rfl,?_⟩;refine aX rfl<|aa rfl<|o2 (fun _=>bh) ?_;refine⟨_,rfl,?_⟩;apply lL;(apply ad;assumption);(apply aj;simp only[lxS,lxA,lxC,lxN,lxY,lxZ,Nat.reduceAdd];simp only[bS,bT,Int.reduceToNat,lxg,lxh];rfl);exact qc hb (Nat.le_of_eq ho) hk1.2;apply aK;(simp only[bK,aE,bS,bT,cK,lxa,bV,bU,lxA,lxM,lxS,lxC,lxN,lxY,lxZ,Nat.reduceAdd,put,aN,String.reduceEq,reduceIte,List.set_set];rfl);dsimp only[bS,bT,cK,bV,bU];refine bH ?_)
 have be:=qo (b:=S.mem) (d:=cc (KTBy.little k (v % (256:Int) ^ k))) (p:=a - S.base) (k:=(k:Int)) (jk q1.2.1) (by rw[ho]) (Int.le_trans q1.2.2 (Int.le_of_eq hlen.symm))
 rw[List.append_assoc] at be
 rw[be]
 have e:(σ'++[AO.slc (some (a - S.base)) (some (a - S.base+(k:Int)))]).set I.me (AO.barr (eY S.mem (a - S.base).toNat (cc (KTBy.little k (v % (256:Int) ^ k)))))=σ'.set I.me (AO.barr (eY S.mem (a - S.base).toNat (cc (KTBy.little k (v % (256:Int) ^ k)))))++[AO.slc (some (a - S.base)) (some (a - S.base+(k:Int)))]:=rY (am hme) rfl
 rw[e]
 exact⟨⟨q1.1,q1.2⟩,rfl,(M.setMem (pU (Int.ofNat_le.mp (oZ (Int.le_of_eq (Int.toNat_of_nonneg (jk q1.2.1:0≤a - S.base))) (Int.ofNat_le.mpr (Nat.le_of_eq ho)) (Int.add_le_add (Int.le_of_eq hlen.symm) q1.2.2) (by simp +arith only[Int.natCast_add]))))).keep .app,.app (.set (by simp) (.refl _))⟩
noncomputable abbrev CM:List Str:=["self", "target"]
theorem xk (W:Wd G D gt bt) (L:Gl gt bt D) (M:Mach D σ I S) :
  CtP G 3 σ (.base (D.m 8)) [.dyn I.m,.int t] (fun r σ'=>t % 4=0∧r = .none∧Mach D σ' I { S with pc:=t % 4294967296 }∧KeptBut [I.m] σ σ')
   (fun i σ'=>t % 4≠0∧dH D σ' i "align" S.pc∧Keep σ σ'):=by
 (refine bC (W.machD 8 _ rfl) fun pm cd DD=>?_)
 have B:=W.B
 have g1:=L.mask
 have g2:=L.trap
 have g3:=L.exc
 have hm:=M.m
 refine ch ["self", "target"] CM ["Trap", "WORD_MASK"] [] 2 DD (by kernel_rfl) rfl (iE fun _ _=>rfl) rfl (by(simp only[lxp,lxq,lxr,lxs,lxt,bV,bU];rfl)) ?_
 by_cases c:t % 4=0
 ·refine ay rfl<|aX rfl<|i2 (fun _=>pA)<|dE (fun _=>fj)<|au (cj ‹_›)<|aI<|aA rfl<|aX rfl<|ax ‹_› rfl ‹_›<|o2 (fun _=>nU)<|bJ<|aa rfl<|cT ‹_› ‹_› rfl<|ap<|bH ?_
  exact⟨c,rfl,M.setM (by exact rfl) rfl rfl rfl rfl rfl,.set (by simp) (.refl _)⟩
 ·(refine ay rfl<|aX rfl<|i2 (fun _=>pA)<|dE (fun _=>fj) ?_;refine aR ?_ ?_;(apply dU;assumption);refine aW<|cD rfl<|b7 ?_;apply ax;assumption;exact rfl;assumption;refine bx<|af<|aH<|aa rfl ?_;apply aV;assumption;assumption;exact rfl;apply ac;refine⟨ok fun _=>by(apply dc;(assumption)),?_⟩;apply dQ;assumption;assumption;exact rfl;decide)
  exact⟨_,_,_,_,rfl,W.trapC,dh.1,c,dh.2.1,dh.2.2⟩
theorem rU (W:Wd G D gt bt) (M:Mach D σ I S) (hd:S.done=true):CtP G 1 σ (.base (D.m 9)) [.dyn I.m] (fun r σ'=>r = .none∧σ'=σ) (fun _ _=>False):=by
 (refine bC (W.machD 9 _ rfl) fun pm cd DD=>?_)
 have B:=W.B
 have hm:=M.m
 refine ch ["self"] Ay Az ["name", "fields", "one", "other"] 0 DD (by kernel_rfl) rfl (jH fun _=>rfl) rfl (by(simp only[lxp,lxq,lxr,lxs,lxt,bV,bU];rfl)) ?_
 refine bY<|cr<|cN rfl ‹_› ‹_› rfl<|aJ<|aR ‹_›<|aW<|td<|aM<|aM ?_
 exact⟨rfl,rfl⟩
end
section
set_option maxHeartbeats 4000000
variable {G:Gd} {D:Ad} {Z:DAd} {gt bt:List (Str×AV)} {σ:List AO} {C:Cx} {lv:List (Str×AV)} {I:MI} {S:MSt}
section
variable {target:Expr} {body:List Stmt} {okk:List AO→Prop} {xs:List AV} {k:Nat} {X:Nat→List AO→Prop}
theorem sY (hx:xs[k]? = some a) (ho:okk σ) (h:fH G C lv σ target a fun lv₁ σ₁=>eQ G C lv₁ σ₁ body (fun _ _ _=>False) fun i _ σ'=>X i σ'):vw G C target body okk xs k lv σ X:=by
 (refine ci h fun lv₁ σ₁ x y=>?_;clear h)
 rcases y with⟨_,_,_,_,k'⟩ | ⟨i,lv₂,σ₂,y,hi,k'⟩
 ·exact k'.elim
 ·exact⟨i,lv₂,σ₂,fun F c => .here hx ho (x F c) (y F c),hi,k'⟩
theorem sX (hx:xs[k]? = some a) (ho:okk σ) (h:fH G C lv σ target a fun lv₁ σ₁=>eQ G C lv₁ σ₁ body (fun f lv₂ σ₂=>f = .next∧∃lw,Wk lv₂ lw∧vw G C target body okk xs (k+1) lw σ₂ X) fun _ _ _=>False):vw G C target body okk xs k lv σ X:=by
 (refine ci h fun lv₁ σ₁ x y=>?_;clear h)
 rcases y with⟨f,lv₂,σ₂,y,e,lw,w,i,lv₃,σ₃,z,hi,k'⟩ | ⟨_,_,_,_,_,k'⟩
 ·exact⟨i,lv₃,σ₃,fun F c => .step hx ho (x F c) (y F c) (.inl e) w (z F c),hi,k'⟩
 ·exact k'.elim
end
noncomputable abbrev xc:List Str:=["self", "steps_most", "turn"]
noncomputable abbrev xd:List Str:=["range", "Trap"]
theorem Df:ScopeOk (mz 13 "Machine.run" .none 0) ["self", "steps_most"] xc xd:=⟨rfl,rfl,rfl,by decide +kernel,by decide +kernel,by decide +kernel,by decide +kernel,by decide +kernel,rfl,rfl,rfl⟩
noncomputable def jE:Stmt:=(dG (mz 13 "Machine.run" .none 0)).getD 0 kg
noncomputable abbrev y3 (m most:Nat) (tu:AV):List (Str×AV):=[("self",.dyn m),("steps_most",.int (most:Int)),("turn",tu)]
noncomputable abbrev AC (pm:Value) (cd:Addr):Cx:=iN (mz 13 "Machine.run" pm cd) xc xd 8
def qF (w:Str):Prop:=w = "" ∨ w = "steps"
noncomputable abbrev Ab:Expr:=(bk jE).1
noncomputable abbrev Ac:List Stmt:=(bk jE).2
def yM (G:Gd) (D:Ad) (pm:Value) (cv:Addr) (most:Nat) (I:MI) (k:Nat) (tu:AV) (σ:List AO) (w:(Str×Int)×LSt):Prop :=
 (qF w.1.1→∀K:AFl→List (Str×AV)→List AO→Prop,(∀tu' σ' S',Mach D σ' I S'→Ag S' w.2→KeptBut I.all σ σ'→(w.2.done=true∧w.1=(("" : Str),S'.status))∨(w.2.done=false∧w.1=(("steps" : Str),S'.pc))→K .next (y3 I.m most tu') σ') →
   qB G (AC pm cv) Ab Ac (fun _=>True) ((List.range most).map fun(j:Nat)=>AV.int (j:Int)) k (y3 I.m most tu) σ K) ∧
 (¬qF w.1.1→∀X:Nat→List AO→Prop,(∀i σ' S' v a,dH D σ' i v a→w.1=(v,a)→Mach D σ' I S'→Ag S' w.2→KeptBut I.all σ σ'→X i σ') →
   vw G (AC pm cv) Ab Ac (fun _=>True) ((List.range most).map fun(j:Nat)=>AV.int (j:Int)) k (y3 I.m most tu) σ X)
theorem nj (W:Wd G D gt bt) (hk:k < most) (M:Mach D σ I S) (g:Ag S Ls) (hd:S.done=false) (hw:¬qF w)
  (ct:CtP G 7 σ (.base (D.m 9)) [.dyn I.m] (fun r σ'=>False) (fun i σ'=>dH D σ' i w S.pc∧Mach D σ' I S∧KeptBut I.all σ σ')):yM G D pm cv most I k tu σ ((w,Ls.pc),Ls):=by
 have B:=W.B
 have hs:=W.sys
 have hm:=M.m
 have hx:((List.range most).map fun(j:Nat)=>AV.int (j:Int))[k]? = some (.int (k:Int)):=by rw[List.getElem?_map,List.getElem?_range hk];rfl
 refine⟨fun q=>absurd q hw,fun _ X hX=>?_⟩
 unfold Ab Ac
 rw[show bk jE=(_,_) from rfl]
 dsimp only
 refine sY hx trivial ?_
 (refine aw rfl<|bY<|cr<|aH<|aa rfl ?_;apply aV;assumption;assumption;exact rfl;apply aJ;refine au ?_ ?_;assumption;apply bH;refine ap ?_;refine cY rfl<|bq<|aa rfl ?_;apply oj;assumption;assumption;exact rfl;apply ac;refine⟨ok fun _=>by(apply di;(assumption);(exact rfl)),?_⟩;dsimp only[bU,bV])
 refine bj (CtP.imp ct (fun r σ' q=>q.elim) (fun i σ' qq0=>?_)) rfl (by decide)
 (refine dA qq0 fun q1 q2 q3=>?_;clear qq0)
 exact hX i σ' S w S.pc q1 (by rw[g.pc]) q2 g q3
theorem ui (W:Wd G D gt bt) (L:Gl gt bt D) (Y:Dec G Z gt) (O:Ops G gt):∀ (n k t:Nat) (σ:List AO) (S:MSt) (Ls:LSt) (tu:AV),k+n=most→Mach D σ I S→Ag S Ls→Cd Ls c r t→S.out.length+n≤900000 →
  yM G D pm cv most I k tu σ (cJ c n Ls):=by
 intro n
 have B:=W.B
 have hs:=W.sys
 induction n with
 | zero =>
  intro k t σ S Ls tu hkn M g cd ho
  by_cases hd:Ls.done=true
  ·have e:cJ c 0 Ls=((("" : Str),yT (Ls.regs.getD 10 0)),Ls):=by unfold cJ;rw[if_pos hd]
   rw[e]
   exact⟨fun _ K hK=>ei (by simp;assumption) trivial (hK _ _ S M g (.refl _) (.inl ⟨hd,by rw[g.st hd]⟩)),fun q=>absurd (.inl rfl) q⟩
  ·have e:cJ c 0 Ls=((("steps" : Str),Ls.pc),Ls):=by unfold cJ;rw[if_neg hd]
   rw[e]
   exact⟨fun _ K hK=>ei (by simp;assumption) trivial (hK _ _ S M g (.refl _) (.inr ⟨by simpa using hd,by rw[g.pc]⟩)),fun q=>absurd (.inr rfl) q⟩
 | succ n ih =>
  intro k t σ S Ls tu hkn M g cd ho
  have hx:((List.range most).map fun(j:Nat)=>AV.int (j:Int))[k]? = some (.int (k:Int)):=by rw[List.getElem?_map,List.getElem?_range (mI (Nat.le_of_eq hkn) (Nat.zero_le n))];rfl
  have hm:=M.m
  cases hd:Ls.done with
  | true =>
   have hd':S.done=true:=g.done.trans hd
   have e:cJ c (n+1) Ls=((("" : Str),yT (Ls.regs.getD 10 0)),Ls):=by unfold cJ;rw[if_pos hd]
   rw[e]
   refine⟨fun _ K hK=>?_,fun q=>absurd (.inl rfl) q⟩
   unfold Ab Ac
   rw[show bk jE=(_,_) from rfl]
   dsimp only
   refine eI hx trivial ?_
   refine aw rfl<|bY<|cr<|cN rfl ‹_› ‹_› rfl<|aJ<|aR ‹_›<|aW<|qJ<|rt<|rt ?_
   exact hK _ _ S M g (.refl _) (.inl ⟨hd,by rw[g.st hd]⟩)
  | false =>
   have hd':S.done=false:=g.done.trans hd
   have hdn:¬ (Ls.done=true):=by rw[hd];decide
   have hlen:=M.len
   have al:S.pc % 4=0:=by have:=cd.pc;have:=cd.al;have:=g.pc;lia
   have iM:=g.inMem hlen S.pc 4
   rw[g.pc] at iM
   have hw:S.pc % 4=0→inMem S S.pc 4→d0 S S.pc=115∨d0 S S.pc=0:=fun _ q=>by
    rw[g.word cd hlen q];split
    ·exact .inl rfl
    ·exact .inr rfl
   have hv:0≤S.regs.getD 10 0∧S.regs.getD 10 0 < 4294967296:=by rw[g.regs];exact kW (by decide) g.rr 10
   have ct:=wX W L Y O M hd' hw g.tk (by lia) hv
   by_cases c1:Ls.base≤Ls.pc∧Ls.pc+4≤Ls.base+Ls.mem.length
   ·have hin:inMem S S.pc 4:=by rw[g.pc];exact iM.mpr c1
    have hword:=g.word cd hlen hin
    by_cases c2:t < c
    ·rw[if_pos c2] at hword
     have c2':¬ (Ls.base+4*(c:Int)≤Ls.pc):=by rw[cd.pc];exact Int.not_le.mpr (jk (ny 4 (Int.ofNat_lt.mpr c2) rfl))
     rcases g.stepped cd hlen M.r32 hd hin c2 with⟨S',L',e1,e2,e3,e4⟩ | ⟨e1,e2⟩
     ·have e:cJ c (n+1) Ls=cJ c n { L' with pc:=L'.pc+4 }:=by
       show (if Ls.done=true then _ else if ¬_ then _ else if _ then _ else match dl Ls with | none=>_ | some L'=>_)=_
       rw[if_neg hdn,if_neg (fun q=>q c1),if_neg c2',e2]
      rw[e]
      have ho':S'.out.length+n≤900000:=by
       have:=(fB e2).2.2.2.1
       have h1:S'.out.length=L'.out.length:=by rw[e3.out,bN]
       have h2:S.out.length=Ls.out.length:=by rw[g.out,bN]
       exact qc (Nat.le_of_eq h1) ho (Nat.add_le_add this (Nat.le_of_eq h2.symm))
      have next:=fun σ' (M':Mach D σ' I S') tu'=>ih (k+1) (t+1) σ' S' _ tu' (Nat.le_antisymm (lU (Nat.le_of_eq hkn)) (lU (Nat.le_of_eq hkn.symm))) M' e3 e4 ho'
      refine⟨fun q K hK=>?_,fun q X hX=>?_⟩
      ·unfold Ab Ac
       rw[show bk jE=(_,_) from rfl]
       dsimp only
       refine eI hx trivial ?_
       (refine aw rfl<|bY<|cr<|aH<|aa rfl ?_;apply aV;assumption;assumption;exact rfl;apply aJ;refine au ?_ ?_;assumption;apply bH;refine ap ?_;refine cY rfl<|bq<|aa rfl ?_;apply oj;assumption;assumption;exact rfl;apply ac;refine⟨ok fun _=>by(apply di;(assumption);(exact rfl)),?_⟩;dsimp only[bU,bV])
       refine bj (CtP.imp ct (fun r σ' qq2=>?_) (fun i σ' qq1=>?_)) rfl (by decide)
       ·(refine jp qq2 fun r1 r2 S'' r3 r4 r5=>?_;clear qq2)
        subst r1
        rw[e1] at r3;cases r3
        refine ap<|bH ?_
        exact⟨_,Wk.refl _,(next σ' r4 _).1 q K fun tu' σ'' S'' h1 h2 h3 h4=>hK tu' σ'' S'' h1 h2 (r5.trans h3 (fun _ h=>h) (fun _ h=>h)) h4⟩
       ·(refine dA qq1 fun zz6 r3 r4=>?_;clear qq1;refine aF zz6 fun w r1 r2=>?_;clear zz6)
        exfalso
        rcases r2 with⟨_,q⟩ | ⟨_,_,q⟩ | ⟨_,_,_,q⟩ | ⟨_,_,_,_,q⟩
        ·exact q al
        ·exact q hin
        ·rw[hword] at q;cases q
        ·rw[e1] at q;cases q
      ·unfold Ab Ac
       rw[show bk jE=(_,_) from rfl]
       dsimp only
       refine sX hx trivial ?_
       (refine aw rfl<|bY<|cr<|aH<|aa rfl ?_;apply aV;assumption;assumption;exact rfl;apply aJ;refine au ?_ ?_;assumption;apply bH;refine ap ?_;refine cY rfl<|bq<|aa rfl ?_;apply oj;assumption;assumption;exact rfl;apply ac;refine⟨ok fun _=>by(apply di;(assumption);(exact rfl)),?_⟩;dsimp only[bU,bV])
       refine bj (CtP.imp ct (fun r σ' qq4=>?_) (fun i σ' qq3=>?_)) rfl (by decide)
       ·(refine jp qq4 fun r1 r2 S'' r3 r4 r5=>?_;clear qq4)
        subst r1
        rw[e1] at r3;cases r3
        refine ap<|bH ?_
        exact⟨rfl,_,Wk.refl _,(next σ' r4 _).2 q X fun i σ'' S'' w a h1 h2 h3 h4 h5=>hX i σ'' S'' w a h1 h2 h3 h4 (r5.trans h5 (fun _ h=>h) (fun _ h=>h))⟩
       ·(refine dA qq3 fun zz13 r3 r4=>?_;clear qq3;refine aF zz13 fun w r1 r2=>?_;clear zz13)
        exfalso
        rcases r2 with⟨_,q⟩ | ⟨_,_,q⟩ | ⟨_,_,_,q⟩ | ⟨_,_,_,_,q⟩
        ·exact q al
        ·exact q hin
        ·rw[hword] at q;cases q
        ·rw[e1] at q;cases q
     ·have e:cJ c (n+1) Ls=((("ecall" : Str),Ls.pc),Ls):=by
       show (if Ls.done=true then _ else if ¬_ then _ else if _ then _ else match dl Ls with | none=>_ | some L'=>_)=_
       rw[if_neg hdn,if_neg (fun q=>q c1),if_neg c2',e2]
      rw[e]
      refine nj W (mI (Nat.le_of_eq hkn) (Nat.zero_le n)) M g hd' (by unfold qF;decide) (CtP.imp ct (fun r σ' qq6=>?_) (fun i σ' qq5=>?_))
      ·(refine jp qq6 fun r1 r2 S'' r3 r4 r5=>?_;clear qq6)
       rw[e1] at r3;cases r3
      ·(refine dA qq5 fun zz20 r3 r4=>?_;clear qq5;refine aF zz20 fun w r1 r2=>?_;clear zz20)
       rcases r2 with⟨_,q⟩ | ⟨_,_,q⟩ | ⟨_,_,_,q⟩ | ⟨rfl,_,_,_,q⟩
       ·exact absurd al q
       ·exact absurd hin q
       ·rw[hword] at q;cases q
       ·exact⟨r1,r3,r4⟩
    ·rw[if_neg c2] at hword
     have c2':Ls.base+4*(c:Int)≤Ls.pc:=by have:=cd.tc;rw[cd.pc];exact jk (ny 4 (Int.ofNat_le.mpr (Nat.not_lt.mp c2)) rfl)
     have e:cJ c (n+1) Ls=((("illegal" : Str),Ls.pc),Ls):=by
      show (if Ls.done=true then _ else if ¬_ then _ else if _ then _ else match dl Ls with | none=>_ | some L'=>_)=_
      rw[if_neg hdn,if_neg (fun q=>q c1),if_pos c2']
     rw[e]
     refine nj W (mI (Nat.le_of_eq hkn) (Nat.zero_le n)) M g hd' (by unfold qF;decide) (CtP.imp ct (fun r σ' qq8=>?_) (fun i σ' qq7=>?_))
     ·(refine jp qq8 fun r1 r2 S'' r3 r4 r5=>?_;clear qq8)
      rw[hword] at r2;cases r2.2.2
     ·(refine dA qq7 fun zz27 r3 r4=>?_;clear qq7;refine aF zz27 fun w r1 r2=>?_;clear zz27)
      rcases r2 with⟨_,q⟩ | ⟨_,_,q⟩ | ⟨rfl,_,_,q⟩ | ⟨_,_,_,q,_⟩
      ·exact absurd al q
      ·exact absurd hin q
      ·exact⟨r1,r3,r4⟩
      ·rw[hword] at q;cases q
   ·have hin:¬inMem S S.pc 4:=fun q=>c1 (by rw[g.pc] at q;exact iM.mp q)
    have e:cJ c (n+1) Ls=((("memory" : Str),Ls.pc),Ls):=by
     show (if Ls.done=true then _ else if ¬_ then _ else if _ then _ else match dl Ls with | none=>_ | some L'=>_)=_
     rw[if_neg hdn,if_pos c1]
    rw[e]
    refine nj W (mI (Nat.le_of_eq hkn) (Nat.zero_le n)) M g hd' (by unfold qF;decide) (CtP.imp ct (fun r σ' qq10=>?_) (fun i σ' qq9=>?_))
    ·(refine jp qq10 fun r1 r2 S'' r3 r4 r5=>?_;clear qq10)
     exact hin r2.2.1
    ·(refine dA qq9 fun zz34 r3 r4=>?_;clear qq9;refine aF zz34 fun w r1 r2=>?_;clear zz34)
     rcases r2 with⟨_,q⟩ | ⟨rfl,_,q⟩ | ⟨_,_,q,_⟩ | ⟨_,_,q,_⟩
     ·exact absurd al q
     ·exact⟨r1,r3,r4⟩
     ·exact absurd q hin
     ·exact absurd q hin
theorem yY (W:Wd G D gt bt) (L:Gl gt bt D) (Y:Dec G Z gt) (O:Ops G gt) (M:Mach D σ I S) (g:Ag S Ls) (cd:Cd Ls c r 0) (ho:S.out.length+most≤900000) :
  CtP G 9 σ (.base (D.m 13)) [.dyn I.m,.int (most:Int)] (fun v σ'=>∃S',v = .int (cJ c most Ls).1.2∧(cJ c most Ls).1.1 = "" ∧ Mach D σ' I S'∧Ag S' (cJ c most Ls).2∧KeptBut I.all σ σ')
   (fun i σ'=>∃S',dH D σ' i (cJ c most Ls).1.1 (cJ c most Ls).1.2∧Mach D σ' I S'∧Ag S' (cJ c most Ls).2∧KeptBut I.all σ σ'):=by
 (refine bC (W.machD 13 _ rfl) fun pm cv DD=>?_)
 have B:=W.B
 have g1:=L.range
 have g2:=L.trap
 have g3:=L.exc
 have lp:=ui (pm:=pm) (cv:=cv) (most:=most) (tu := .unk) W L Y O most 0 0 (σ++[.rng 0 (most:Int)]) S Ls (by simp) (M.keep .app) g cd ho
 by_cases f:qF (cJ c most Ls).1.1
 ·refine ch ["self", "steps_most"] xc xd ["turn"] 8 DD (by kernel_rfl) rfl (iE fun _ _=>rfl) rfl (by(simp only[lxp,lxq,lxr,lxs,lxt,bV,bU];rfl)) ?_
  refine aW (eJ rfl ?_)
  refine cb rfl ‹_› rfl ‹_›<|ai rfl<|ac<|aT<|fw ?_
  refine⟨_,_,fun A hh=>f7 hh (by exact aj rfl rfl) (by lia) (by simp),?_⟩
  rw[show ((most:Int)).toNat=most by simp]
  refine lp.1 f _ fun tu' σ' S' M' g' kb hh=>?_
  have hm':=M'.m
  have kb':KeptBut I.all σ σ':=fun i o hi e=>kb i o hi (ad e)
  rcases hh with⟨hd,e⟩ | ⟨hd,e⟩
  ·have hd':S'.done=true:=g'.done.trans hd
   refine ap<|bY<|eg<|cr<|cN rfl ‹_› ‹_› rfl<|aJ<|au (eF ‹_›)<|aI<|bE<|cN rfl ‹_› ‹_› rfl<|aM ?_
   exact⟨S',by rw[e];rfl,by rw[e],M',g',kb'⟩
  ·have hd':S'.done=false:=g'.done.trans hd
   (refine ap ?_;refine bY<|eg<|cr<|aH<|aa rfl ?_;apply aV;assumption;assumption;exact rfl;apply aJ;refine aR ?_ ?_;(apply uw;assumption);refine aW<|cD rfl<|b7 ?_;apply ax;assumption;exact rfl;assumption;refine bx<|af<|aH<|aa rfl ?_;apply aV;assumption;assumption;exact rfl;apply ac;refine⟨ok fun _=>by(apply dc;(assumption)),?_⟩;apply dQ;assumption;assumption;exact rfl;decide)
   exact⟨_,_,_,_,rfl,W.trapC,dh.1,S',by rw[e];exact dh.2.1,M'.keep dh.2.2,g',kb'.keep dh.2.2⟩
 ·refine wi (names:=["self", "steps_most"]) (ls:=xc) (gs:=xd) (rest:=["turn"]) (k:=8) DD (Df.of rfl rfl rfl rfl) rfl (iE fun _ _=>rfl) rfl rfl (by(simp only[lxp,lxq,lxr,lxs,lxt,bV,bU];rfl)) ?_
  refine cb rfl ‹_› rfl ‹_›<|ai rfl<|ac<|aT<|fw ?_
  refine⟨_,_,fun A hh=>f7 hh (by exact aj rfl rfl) (by lia) (by simp),?_⟩
  rw[show ((most:Int)).toNat=most by simp]
  refine lp.2 f _ fun i σ' S' w a h1 h2 M' g' kb=>⟨S',?_,M',g',fun i o hi e=>kb i o hi (ad e)⟩
  rw[h2];exact h1
end
section
variable {G:Gd} {D:Ad} {Q:LAd} {gt bt:List (Str×AV)} {A:Around} {F:Fx} {σ σ' σ₁ σ₂:List AO} {C:Cx} {lv:List (Str×AV)} {I:MI} {S S':MSt} {J J':LI} {L L':LSt} {We N k k':Nat} {ns:List Int}
noncomputable def bc (L:LSt) (a w m:Int):List Str:=(if a % w≠0 then [("align" : Str)] else [])++(if a < L.base∨a+m > L.base+L.mem.length then [("memory" : Str)] else [])
theorem ky {n:Int} {K:List AO→Prop} (hi:σ[i]? = some (.list xs)) (h0:0≤n) (h1:n < xs.length) (h2:n < 2 ^ 63) (hy:xs.set n.toNat x=ys) (k:K (σ.set i (.list ys))):jT G C σ setItem (.dyn i) (.int n) x K:=od (fun _=>lG hi h0 h2 h1 hy) k
theorem sH:cut xs (some 1) none=xs.drop 1:=by
 have e:cL xs.length (some 1)=min 1 xs.length:=by unfold cL;simp only[Option.elim];unfold clipAt;lia
 have e2:d9 xs.length none=xs.length:=rfl
 unfold cut
 rw[e,e2]
 cases xs with
 | nil=>rfl
 | cons a l=>simp
theorem wW (h:∃x p,Expr.Name x p∈ts∧env.kindOf x=some .cell):swappedStores [.Tuple ts kt tp] (.Tuple vs kv vp) env=pure none:=by
 (refine ci h fun x p hm hk=>?_;clear h)
 unfold swappedStores
 simp only[]
 split
 ·rfl
 ·split
  ·rfl
  ·rw[if_pos]
   rw[Bool.or_eq_true]
   left
   rw[bne_iff_ne]
   intro e
   have:=(List.filterMap_length_eq_length).mp e _ hm
   simp[hk] at this
theorem ej {K:AFl→List (Str×AV)→List AO→Prop} (x:String) (p:Pos) (hm:Expr.Name (Str.ofString x) p∈ts) (ho:C.own=true) (hx:C.cs.contains (Str.ofString x)=true)
  (h:cW G C lv σ (.Tuple vs kv vp) fun v σ₁=>fH G C lv σ₁ (.Tuple ts kt tp) v fun lv₂ σ₂=>K .next lv₂ σ₂) (hs:∀env,swapsWithSole [.Tuple ts kt tp] (.Tuple vs kv vp) pos.line env=pure false:=by intro _;rfl) :
  jS G C lv σ (.Assign [.Tuple ts kt tp] (.Tuple vs kv vp) pos) K X:=by
 (refine dK h fun v σ₁ ev lv₂ σ₂ as k=>?_;clear h)
 refine .inl ⟨.next,lv₂,σ₂,fun F c=>fun π s S Q E z=>?_,k⟩
 refine iS (ev F c π s S _ E fun π₁ s₁ v₁ C₁ W₁ R₁=>as F c π₁ s₁ v₁ (S.fwd C₁ W₁) R₁ _ E fun π₂ s₂ S₂ W₂=>z π₂ s₂ .next S₂ (S₂.transL W₁.toX W₂) rfl) (hs _) (wW ⟨_,p,hm,c.own ho _ hx⟩)
structure Hq (G:Gd) (D:Ad) (Q:LAd) (σ:List AO) (We N:Nat) (I:MI) (S:MSt) (J:LI) (L:LSt) (ns:List Int) (k:Nat):Prop where
 M:Mach D σ I S
 A:LAt G σ J L
 H:WellAt σ We N ns k
 tabs:Tabs Q σ
 hN:N ∉ I.all
 nJ:N ∉ J.all
 off:∀j∈J.all,j ∉ I.all
 offi:J.ii ∉ I.all
theorem Hq.offW (h:Hq G D Q σ We N I S J L ns k):We ∉ I.all∧We ∉ J.all∧We≠J.ii:=by
 (refine ci (h.H) fun p c h1 _=>?_)
 have ne:∀ {j:Nat} {ms:List Int},σ[j]? = some (.list (ms.map .int))→We≠j:=fun {j ms} q=>aO h1 q fun e=>by
  cases ms with
  | nil=>simp at e
  | cons a l=>simp at e
 refine⟨h.H.off h.M,fun q=>?_,ne h.A.ii⟩
 simp only[LI.all,lxm,lxn,or_false] at q
 rcases q with q | q | q | q
 ·exact aO h1 h.A.d (by simp) q
 ·exact ne h.A.mm q
 ·exact ne h.A.rr q
 ·exact ne h.A.oo q
theorem Hq.offS (h:Hq G D Q σ We N I S J L ns k) (hi:σ[i]? = some o) (c1:∀xs,o ≠ .list xs) (c2:∀w es,o ≠ .sdict w es) (c3:∀fs,o ≠ .inst D.mach fs) (c4:∀b,o ≠ .barr b) (c5:∀es,o ≠ .idict es):i ∉ I.all∧i ∉ J.all∧i≠J.ii∧i≠We∧i≠N:=by
 (refine dL (h.H) fun p c h1 _ _ h2 _=>?_)
 refine⟨h.M.mOff hi c3 c4 (fun xs=>c1 _) c5,fun q=>?_,aO hi h.A.ii (c1 _),aO hi h1 (c1 _),aO hi h2 (c1 _)⟩
 simp only[LI.all,lxm,lxn,or_false] at q
 rcases q with q | q | q | q
 ·exact aO hi h.A.d (c2 _ _) q
 ·exact aO hi h.A.mm (c1 _) q
 ·exact aO hi h.A.rr (c1 _) q
 ·exact aO hi h.A.oo (c1 _) q
theorem Hq.tabOff (h:Hq G D Q σ We N I S J L ns k) (ht:t < 7):t ∉ I.all∧t ∉ J.all∧t≠J.ii∧t≠We∧t≠N:=by
 (refine aF (h.tabs t ht) fun ts h1 _=>?_)
 exact h.offS h1 (by simp) (by simp) (by simp) (by simp) (by simp)
theorem Hq.jNoCode (h:Hq G D Q σ We N I S J L ns k):∀i∈J.all,∀q,σ[i]? ≠ some (.code q):=fun i hi q e=>by
 exact(h.offS e (by simp) (by simp) (by simp) (by simp) (by simp)).2.1 hi
theorem Hq.kept (h:Hq G D Q σ We N I S J L ns k) (K:KeptBut is σ σ') (hi:∀i∈is,(i ∉ I.all∧i ∉ J.all∧i≠J.ii∧i≠We∧i≠N)∧7≤i∧(∀q,σ[i]? ≠ some (.code q))∧∀j,σ[i]? ≠ some (.tuple [.str "ecall",.dyn j])):Hq G D Q σ' We N I S J L ns k:=by
 refine⟨h.M.kept K (fun i q=>(hi i q).1.1) (fun i q=>(hi i q).2.2.2),h.A.kept K (fun j hj q=>(hi j q).1.2.1 hj) (fun q=>(hi _ q).1.2.2.1 rfl),h.H.kept K (fun q=>(hi _ q).1.2.2.2.1 rfl) (fun q=>(hi _ q).1.2.2.2.2 rfl),h.tabs.kept K (fun t ht q=>?_) (fun i q=>(hi i q).2.2.1),h.hN,h.nJ,h.off,h.offi⟩
 have:=(hi t q).2.1
 exact Int.lt_irrefl _ (Int.lt_of_lt_of_le (Int.ofNat_lt.mpr ht) (Int.ofNat_le.mpr this))
theorem Hq.keep (h:Hq G D Q σ We N I S J L ns k) (K:Keep σ σ'):Hq G D Q σ' We N I S J L ns k:=h.kept (is:=[]) (.of K _) (by simp)
theorem Hq.app (h:Hq G D Q σ We N I S J L ns k):Hq G D Q (σ++l) We N I S J L ns k:=h.keep .app
theorem Hq.cell (h:Hq G D Q σ We N I S J L ns k) (hi:σ[i]? = some (.cell v)):Hq G D Q (σ.set i (.cell a)) We N I S J L ns k:=by
 refine h.kept (is:=[i]) (.set (by simp) (.refl _)) fun j hj=>?_
 simp only[lxm,lxn,or_false] at hj
 subst hj
 refine⟨h.offS hi (by simp) (by simp) (by simp) (by simp) (by simp),?_,(fun q e=>by rw[hi] at e;cases e),fun q e=>by rw[hi] at e;cases e⟩
 refine Nat.le_of_not_lt fun q=>?_
 (refine aF (h.tabs j q) fun ts h1 _=>?_)
 rw[hi] at h1;cases h1
theorem Hq.drawn (h:Hq G D Q σ We N I S J L ns k) (K:KeptBut [We] σ σ') (H:WellAt σ' We N ns k'):Hq G D Q σ' We N I S J L ns k':=by
 (refine dA (h.offW) fun o1 o2 o3=>?_)
 (refine ci (h.H) fun p c h1 _=>?_)
 refine⟨h.M.drawn h.H K,h.A.kept K (fun j hj q=>?_) (by simpa using o3.symm),H,h.tabs.kept K (fun t ht=>by simpa using (h.tabOff ht).2.2.2.1) (fun i hi q e=>?_),h.hN,h.nJ,h.off,h.offi⟩
 ·simp at q;subst q;exact o2 hj
 ·simp at hi;subst hi;rw[h1] at e;cases e
theorem Hq.made (h:Hq G D Q σ We N I S J L ns k) (ht:t < 7) (K:KeptBut [t] σ σ') (h1:TabOk σ' t (Q.tab t) (za t) (CB t)):Hq G D Q σ' We N I S J L ns k:=by
 (refine gq (h.tabOff ht) fun o1 o2 o3 o4 o5=>?_)
 (refine aF (h.tabs t ht) fun ts h2 _=>?_)
 refine⟨h.M.kept K (fun i hi=>by simp at hi;subst hi;exact o1) (fun i hi j q=>by simp at hi;subst hi;rw[h2] at q;cases q),h.A.kept K (fun j hj q=>by simp at q;subst q;exact o2 hj) (by simpa using o3.symm),h.H.kept K (by simpa using o4.symm) (by simpa using o5.symm),h.tabs.made ht K h1,h.hN,h.nJ,h.off,h.offi⟩
theorem Hq.mach (h:Hq G D Q σ We N I S J L ns k) (K:KeptBut I.all σ σ') (M':Mach D σ' I S'):Hq G D Q σ' We N I S' J L ns k :=
 ⟨M',h.A.kept K h.off h.offi,h.H.kept K (h.H.off h.M) h.hN,h.tabs.kept K (fun t ht=>(h.tabOff ht).1) h.M.noCode,h.hN,h.nJ,h.off,h.offi⟩
theorem Hq.state (h:Hq G D Q σ We N I S J L ns k) (K:KeptBut J.all σ σ') (A':LAt G σ' J' L') (e:J'.all=J.all) (e2:J'.ii=J.ii∨σ.length≤J'.ii):Hq G D Q σ' We N I S J' L' ns k:=by
 (refine dA (h.offW) fun o1 o2 o3=>?_)
 refine⟨h.M.kept K (fun i hi=>h.off i hi) (fun i hi j q=>?_),A',h.H.kept K o2 h.nJ,h.tabs.kept K (fun t ht=>(h.tabOff ht).2.1) h.jNoCode,h.hN,e ▸ h.nJ,e ▸ h.off,?_⟩
 ·exact(h.offS q (by simp) (by simp) (by simp) (by simp) (by simp)).2.1 hi
 ·rcases e2 with e2 | e2
  ·rw[e2];exact h.offi
  ·exact h.M.newOff e2
theorem WellAt.lt (h:WellAt σ We N ns k):We < σ.length:=by(refine ci h fun p c h1 _=>?_;clear h);exact am h1
theorem KeptBut.less (h:KeptBut is (σ++l) σ'):KeptBut is σ σ':=fun i o hi e=>h i o hi (ad e)
theorem dy {a b:Nat} (h:a≠b):a ∉ [b]:=by simpa using h
noncomputable abbrev fQ (We:Nat) (I:MI) (J:LI):List Nat:=We::([0,1,2,3,4,5,6]++J.all++I.all)
theorem dp:∀i∈[We],i∈fQ We I J:=fun i h=>by simp at h;subst h;simp
theorem CA:∀t < 7,t∈[0,1,2,3,4,5,6]:=by decide
theorem e7 (ht:t < 7):∀i∈[t],i∈fQ We I J:=fun i h=>by
 have e:i=t:=List.mem_singleton.mp h
 rw[e]
 exact List.mem_cons_of_mem _ (List.mem_append_left _ (List.mem_append_left _ (CA _ ht)))
theorem hG:∀i∈I.all,i∈fQ We I J:=fun i h=>List.mem_cons_of_mem _ (List.mem_append_right _ h)
theorem mG:∀i∈J.all,i∈fQ We I J:=fun i h=>List.mem_cons_of_mem _ (List.mem_append_left _ (List.mem_append_right _ h))
def DeedOk (G:Gd) (D:Ad) (Q:LAd) (σ:List AO) (We N:Nat) (I:MI) (J:LI) (L:LSt) (ns:List Int) (kk:Nat) (r:AV) (σ':List AO):Prop :=
 r = .bool true∧∃S' J' L',Hq G D Q σ' We N I S' J' L' ns kk∧Ag S' L'∧J'.d=J.d∧J'.all=J.all∧L'.mem.length=L.mem.length∧L'.out.length≤L.out.length+1∧L'.inp.length≤L.inp.length∧KeptBut (fQ We I J) σ σ'
theorem KeptBut.setNew (h:KeptBut is σ σ₁) (hj:σ.length≤j):KeptBut is σ (σ₁.set j a):=fun i o hi e=>ah (by have:=am e;exact Nat.ne_of_gt (q2 1 0 0 0 1 0 this hj rfl)) (h i o hi e)
theorem ey (h1:a % w=0) (h2:L.base≤a∧a+m≤L.base+L.mem.length):bc L a w m=[]:=by
 unfold bc
 rw[if_neg (by lia),if_neg (by lia)];rfl
theorem gg (h1:a % w≠0):("align" : Str)∈bc L a w m:=by
 unfold bc
 rw[if_pos h1];simp
theorem e9 (h2:¬ (L.base≤a∧a+m≤L.base+L.mem.length)):("memory" : Str)∈bc L a w m:=by
 unfold bc
 rw[if_pos (show a < L.base∨a+m > L.base+L.mem.length by lia)];simp
theorem Hq.newOff (h:Hq G D Q σ We N I S J L ns k) (hj:σ.length≤j):j ∉ I.all∧j ∉ J.all∧j≠J.ii∧We≠j∧7≤j:=by
 have q1:=am h.A.d
 have q2:=am h.A.mm
 have q3:=am h.A.rr
 have q4:=am h.A.oo
 have q5:=am h.A.ii
 have q6:=h.H.lt
 (refine aF (h.tabs 6 (by decide)) fun ts h1 _=>?_)
 have q7:=am h1
 refine⟨h.M.newOff hj,fun q=>?_,by lia,by lia,by lia⟩
 simp only[LI.all,lxm,lxn,or_false] at q
 lia
end
section
set_option maxHeartbeats 4000000
variable {G:Gd} {D:Ad} {Q:LAd} {gt bt:List (Str×AV)} {σ:List AO} {C:Cx} {lv:List (Str×AV)} {I:MI} {S:MSt} {J:LI} {L:LSt} {We N k:Nat} {ns:List Int}
noncomputable abbrev CV:List Str:=["well", "size", "numbers", "place", "carry", "given"]
theorem cR (W:Wd G D gt bt) (L:Gl gt bt D) (Y:Law G Q gt) (H:WellAt σ We N ns k) (hk:k < 900) (hm:0 < m) :
  CtP G 2 σ (.base (Q.fn 0)) [.dyn We,.int m] (fun r σ'=>∃v,r = .int v∧(0≤v∧v < m)∧WellAt σ' We N ns (k+1)∧KeptBut [We] σ σ'∧σ'.length=σ.length) (fun _ _=>False):=by
 (refine bC (Y.fD 0 _ rfl) fun pm cd DD=>?_)
 have B:=W.B
 have g1:=L.len
 have hWN:=H.ne
 (refine dL H fun p c h1 h2 h3 h4 h5=>?_;clear H)
 refine ch ["well", "size"] CV ["len"] ["numbers", "place", "carry", "given"] 1 DD (by kernel_rfl) rfl (iE fun _ _=>rfl) rfl (by(simp only[lxp,lxq,lxr,lxs,lxt,bV,bU];rfl)) ?_
 by_cases hlt:p < ns.length
 ·have hx:(ns.map AV.int)[p.toNat]? = some (.int (ns.getD p.toNat 0)):=by
   have:p.toNat < ns.length:=Int.ofNat_lt.mp (nC (Int.le_of_eq (Int.toNat_of_nonneg h2)) hlt)
   simp[this]
  (refine aW<|fF<|dC<|aa rfl<|wD rfl ‹_› rfl (fun _=>rfl) (fun _=>rfl)<|bQ<|aw rfl<|bQ<|aw rfl<|bQ<|aw rfl<|dP<|ap<|aA rfl<|aa rfl<|fx rfl<|ay rfl<|aa rfl<|cb rfl ‹_› rfl ‹_›<|ai rfl<|ac<|aB<|c7 ‹_› (by simp only[lxC,lxN,lxA,lxM,lxS,List.length_replicate];exact Int.lt_of_lt_of_le (Int.ofNat_lt.mpr h5) (by decide))<|eL (fun _=>dN) ?_;refine aR ?_ ?_;(apply decide_eq_true;simp only[lxC,lxN,lxA,lxM,lxS,List.length_replicate];assumption);refine aA rfl<|bg<|aa rfl<|aa rfl<|bu ‹_› ‹_› (Int.lt_trans hlt (Int.lt_of_lt_of_le (Int.ofNat_lt.mpr h5) (by decide))) ‹_› (fun _ _=>by with_unfolding_all rfl)<|fx rfl<|aI<|aA rfl<|aX rfl<|i2 (fun _=>bh)<|ck<|aa rfl<|bf<|ky ‹_› (by decide) (by simp only[lxC,lxN,lxA,lxM,lxS,List.length_replicate];exact(by decide)) (by decide) (by simp only[bS,bT,Int.reduceToNat,Int.toNat_zero,Int.toNat_one,cK];rfl)<|ap<|aA rfl<|aG<|aG<|aG<|aG<|aX rfl<|i2 (fun _=>fO (cF (by decide) (by decide)))<|aX rfl<|i2 (fun _=>cw (by decide))<|o2 (fun _=>bh)<|aG<|bf<|aa rfl ?_;(with_reducible refine o2 (fun _=>fO (cF (by(with_reducible exact yE (by assumption) (by decide))) (Int.lt_trans hlt (Int.lt_of_lt_of_le (Int.ofNat_lt.mpr h5) (by decide))))) ?_);refine o2 (fun _=>bh)<|i2 (fun _=>bh)<|i2 (fun _=>cw (by decide))<|ck<|aa rfl<|bf<|ky (aU ‹_›) (by decide) (by simp only[lxC,lxN,lxA,lxM,lxS,List.length_replicate];exact(by decide)) (by decide) (by simp only[bS,bT,Int.reduceToNat,Int.toNat_zero,Int.toNat_one,cK];rfl) ?_;apply aK;(simp only[bK,aE,bS,bT,cK,lxa,bV,bU,lxA,lxM,lxS,lxC,lxN,lxY,lxZ,Nat.reduceAdd,put,aN,String.reduceEq,reduceIte,List.set_set];rfl);dsimp only[bS,bT,cK,bV,bU];refine bE<|aX rfl<|aa rfl<|o2 (fun _=>cw (by assumption))<|aM ?_)
  exact⟨_,rfl,⟨Int.emod_nonneg _ (Int.ne_of_gt hm),Int.emod_lt_of_pos _ hm⟩,⟨p+1,_,aU h1,Int.le_of_lt (Int.lt_of_lt_of_le (by decide) (Int.add_le_add_right h2 _)),jk h3 (by simp +arith only[Int.natCast_add,Int.cast_ofNat_Int]),ah hWN h4,h5⟩,.set (by simp) (.refl _),by simp⟩
 ·(refine aW<|fF<|dC<|aa rfl<|wD rfl ‹_› rfl (fun _=>rfl) (fun _=>rfl)<|bQ<|aw rfl<|bQ<|aw rfl<|bQ<|aw rfl<|dP<|ap<|aA rfl<|aa rfl<|fx rfl<|ay rfl<|aa rfl<|cb rfl ‹_› rfl ‹_›<|ai rfl<|ac<|aB<|c7 ‹_› (by simp only[lxC,lxN,lxA,lxM,lxS,List.length_replicate];exact Int.lt_of_lt_of_le (Int.ofNat_lt.mpr h5) (by decide))<|eL (fun _=>dN) ?_;refine au ?_ ?_;(apply decide_eq_false;simp only[lxC,lxN,lxA,lxM,lxS,List.length_replicate];assumption);refine aI<|aA rfl<|aX rfl<|i2 (fun _=>bh)<|ck<|aa rfl<|bf<|ky ‹_› (by decide) (by simp only[lxC,lxN,lxA,lxM,lxS,List.length_replicate];exact(by decide)) (by decide) (by simp only[bS,bT,Int.reduceToNat,Int.toNat_zero,Int.toNat_one,cK];rfl)<|ap<|aA rfl<|aG<|aG<|aG<|aG<|aX rfl<|i2 (fun _=>fO (cF (by decide) (by decide)))<|aX rfl<|i2 (fun _=>cw (by decide))<|o2 (fun _=>bh)<|aG<|bf<|aa rfl ?_;(with_reducible refine o2 (fun _=>fO (cF (by(with_reducible exact yE (by assumption) (by decide))) (Int.lt_of_le_of_lt h3 (Int.lt_of_lt_of_le (Int.ofNat_lt.mpr hk) (by decide))))) ?_);refine o2 (fun _=>bh)<|i2 (fun _=>bh)<|i2 (fun _=>cw (by decide))<|ck<|aa rfl<|bf<|ky (aU ‹_›) (by decide) (by simp only[lxC,lxN,lxA,lxM,lxS,List.length_replicate];exact(by decide)) (by decide) (by simp only[bS,bT,Int.reduceToNat,Int.toNat_zero,Int.toNat_one,cK];rfl) ?_;apply aK;(simp only[bK,aE,bS,bT,cK,lxa,bV,bU,lxA,lxM,lxS,lxC,lxN,lxY,lxZ,Nat.reduceAdd,put,aN,String.reduceEq,reduceIte,List.set_set];rfl);dsimp only[bS,bT,cK,bV,bU];refine bE<|aX rfl<|aa rfl<|o2 (fun _=>cw (by assumption))<|aM ?_)
  exact⟨_,rfl,⟨Int.emod_nonneg _ (Int.ne_of_gt hm),Int.emod_lt_of_pos _ hm⟩,⟨p+1,_,aU h1,Int.le_of_lt (Int.lt_of_lt_of_le (by decide) (Int.add_le_add_right h2 _)),jk h3 (by simp +arith only[Int.natCast_add,Int.cast_ofNat_Int]),ah hWN h4,h5⟩,.set (by simp) (.refl _),by simp⟩
noncomputable abbrev CU:List Str:=["state", "address", "width", "many", "due"]
theorem ix (W:Wd G D gt bt) (Lg:Gl gt bt D) (Y:Law G Q gt) (A:LAt G σ J L) (hw:0 < w) (hz:L.mem.length≤1000000) :
  CtP G 1 σ (.base (Q.fn 2)) [.dyn J.d,.int a,.int w,.int m] (fun r σ'=>r = .dyn σ.length∧σ'=σ++[.list ((bc L a w m).map .str)]) (fun _ _=>False):=by
 (refine bC (Y.fD 2 _ rfl) fun pm cd DD=>?_)
 have B:=W.B
 have g1:=Lg.len
 have hd:=A.d
 have hmm:=A.mm
 refine ch ["state", "address", "width", "many"] CU ["len"] ["due"] 0 DD (by kernel_rfl) rfl (so fun _ _ _ _=>rfl) rfl (by(simp only[lxp,lxq,lxr,lxs,lxt,bV,bU];rfl)) ?_
 unfold bc
 by_cases c1:a % w≠0
 ·by_cases c2:a < L.base
  ·rw[if_pos c1,if_pos (.inl c2)]
   (refine aA rfl<|aP<|ac<|aL rfl<|cV rfl<|ay rfl<|aX rfl<|aa rfl<|o2 (fun _=>cw (by assumption))<|dE (fun _=>fj)<|aR (dU ‹_›)<|cY rfl<|dC<|em<|aa rfl<|dv (aj rfl rfl)<|bx<|ac<|aB ?_;dsimp only[bU,bV];refine dW (aj rfl rfl) (by decide) ?_;apply aK;exact yX;dsimp only[bS,bT,cK,bV,bU];refine aI<|bY<|b6<|bo<|aY<|aa rfl<|bd rfl (ad ‹_›) cO<|eL (fun _=>dN)<|aR (decide_eq_true ‹_›)<|aR rfl<|cY rfl<|dC<|em<|aa rfl<|dv (aj rfl rfl)<|bx<|ac<|aB ?_;simp only[bU,bV];refine dW (aj rfl rfl) (by decide) ?_;apply aK;exact yX;dsimp only[bS,bT,cK,bV,bU];refine aI<|bE<|aa rfl<|aM ?_)
   exact⟨rfl,rfl⟩
  ·by_cases c3:a+m > L.base+L.mem.length
   ·rw[if_pos c1,if_pos (.inr c3)]
    (refine aA rfl<|aP<|ac<|aL rfl<|cV rfl<|ay rfl<|aX rfl<|aa rfl<|o2 (fun _=>cw (by assumption))<|dE (fun _=>fj)<|aR (dU ‹_›)<|cY rfl<|dC<|em<|aa rfl<|dv (aj rfl rfl)<|bx<|ac<|aB ?_;dsimp only[bU,bV];refine dW (aj rfl rfl) (by decide) ?_;apply aK;exact yX;dsimp only[bS,bT,cK,bV,bU];refine aI<|bY<|b6<|bo<|aY<|aa rfl<|bd rfl (ad ‹_›) cO<|eL (fun _=>dN)<|au (decide_eq_false ‹_›)<|bo<|aY<|aX rfl<|aa rfl<|o2 (fun _=>bh)<|aG<|bd rfl (ad ‹_›) cO<|cb rfl ‹_› rfl ‹_›<|af<|bd rfl (ad ‹_›) dz<|ac<|aB<|c7 (ad ‹_›) (by simp only[lxC,lxN,lxA,lxM,lxS,List.length_replicate];exact Int.lt_of_le_of_lt (Int.ofNat_le.mpr hz) (by decide))<|o2 (fun _=>bh)<|eL (fun _=>fk) ?_;refine aR ?_ ?_;(apply decide_eq_true;simp only[lxC,lxN,lxA,lxM,lxS,List.length_replicate];assumption);refine aR rfl<|cY rfl<|dC<|em<|aa rfl<|dv (aj rfl rfl)<|bx<|ac<|aB ?_;simp only[bU,bV];refine dW (aj rfl rfl) (by decide) ?_;apply aK;exact yX;dsimp only[bS,bT,cK,bV,bU];refine aI<|bE<|aa rfl<|aM ?_)
    exact⟨rfl,rfl⟩
   ·rw[if_pos c1,if_neg (by lia)]
    (refine aA rfl<|aP<|ac<|aL rfl<|cV rfl<|ay rfl<|aX rfl<|aa rfl<|o2 (fun _=>cw (by assumption))<|dE (fun _=>fj)<|aR (dU ‹_›)<|cY rfl<|dC<|em<|aa rfl<|dv (aj rfl rfl)<|bx<|ac<|aB ?_;dsimp only[bU,bV];refine dW (aj rfl rfl) (by decide) ?_;apply aK;exact yX;dsimp only[bS,bT,cK,bV,bU];refine aI<|bY<|b6<|bo<|aY<|aa rfl<|bd rfl (ad ‹_›) cO<|eL (fun _=>dN)<|au (decide_eq_false ‹_›)<|bo<|aY<|aX rfl<|aa rfl<|o2 (fun _=>bh)<|aG<|bd rfl (ad ‹_›) cO<|cb rfl ‹_› rfl ‹_›<|af<|bd rfl (ad ‹_›) dz<|ac<|aB<|c7 (ad ‹_›) (by simp only[lxC,lxN,lxA,lxM,lxS,List.length_replicate];exact Int.lt_of_le_of_lt (Int.ofNat_le.mpr hz) (by decide))<|o2 (fun _=>bh)<|eL (fun _=>fk) ?_;refine au ?_ ?_;(apply decide_eq_false;simp only[lxC,lxN,lxA,lxM,lxS,List.length_replicate];assumption);refine cz<|au rfl<|aI<|bE<|aa rfl<|aM ?_)
    exact⟨rfl,rfl⟩
 ·by_cases c2:a < L.base
  ·rw[if_neg c1,if_pos (.inl c2)]
   (refine aA rfl<|aP<|ac<|aL rfl<|cV rfl<|ay rfl<|aX rfl<|aa rfl<|o2 (fun _=>cw (by assumption))<|dE (fun _=>fj) ?_;refine au ?_ ?_;(apply cj;lia);refine aI<|bY<|b6<|bo<|aY<|aa rfl<|bd rfl (ad ‹_›) cO<|eL (fun _=>dN)<|aR (decide_eq_true ‹_›)<|aR rfl<|cY rfl<|dC<|em<|aa rfl<|dv (aj rfl rfl)<|bx<|ac<|aB ?_;dsimp only[bU,bV];refine dW (aj rfl rfl) (by decide) ?_;apply aK;exact yX;dsimp only[bS,bT,cK,bV,bU];refine aI<|bE<|aa rfl<|aM ?_)
   exact⟨rfl,rfl⟩
  ·by_cases c3:a+m > L.base+L.mem.length
   ·rw[if_neg c1,if_pos (.inr c3)]
    (refine aA rfl<|aP<|ac<|aL rfl<|cV rfl<|ay rfl<|aX rfl<|aa rfl<|o2 (fun _=>cw (by assumption))<|dE (fun _=>fj) ?_;refine au ?_ ?_;(apply cj;lia);refine aI<|bY<|b6<|bo<|aY<|aa rfl<|bd rfl (ad ‹_›) cO<|eL (fun _=>dN)<|au (decide_eq_false ‹_›)<|bo<|aY<|aX rfl<|aa rfl<|o2 (fun _=>bh)<|aG<|bd rfl (ad ‹_›) cO<|cb rfl ‹_› rfl ‹_›<|af<|bd rfl (ad ‹_›) dz<|ac<|aB<|c7 (ad ‹_›) (by simp only[lxC,lxN,lxA,lxM,lxS,List.length_replicate];exact Int.lt_of_le_of_lt (Int.ofNat_le.mpr hz) (by decide))<|o2 (fun _=>bh)<|eL (fun _=>fk) ?_;refine aR ?_ ?_;(apply decide_eq_true;simp only[lxC,lxN,lxA,lxM,lxS,List.length_replicate];assumption);refine aR rfl<|cY rfl<|dC<|em<|aa rfl<|dv (aj rfl rfl)<|bx<|ac<|aB ?_;dsimp only[bU,bV];refine dW (aj rfl rfl) (by decide) ?_;apply aK;exact yX;dsimp only[bS,bT,cK,bV,bU];refine aI<|bE<|aa rfl<|aM ?_)
    exact⟨rfl,rfl⟩
   ·rw[if_neg c1,if_neg (by lia)]
    (refine aA rfl<|aP<|ac<|aL rfl<|cV rfl<|ay rfl<|aX rfl<|aa rfl<|o2 (fun _=>cw (by assumption))<|dE (fun _=>fj) ?_;refine au ?_ ?_;(apply cj;lia);refine aI<|bY<|b6<|bo<|aY<|aa rfl<|bd rfl (ad ‹_›) cO<|eL (fun _=>dN)<|au (decide_eq_false ‹_›)<|bo<|aY<|aX rfl<|aa rfl<|o2 (fun _=>bh)<|aG<|bd rfl (ad ‹_›) cO<|cb rfl ‹_› rfl ‹_›<|af<|bd rfl (ad ‹_›) dz<|ac<|aB<|c7 (ad ‹_›) (by simp only[lxC,lxN,lxA,lxM,lxS,List.length_replicate];exact Int.lt_of_le_of_lt (Int.ofNat_le.mpr hz) (by decide))<|o2 (fun _=>bh)<|eL (fun _=>fk) ?_;refine au ?_ ?_;(apply decide_eq_false;simp only[lxC,lxN,lxA,lxM,lxS,List.length_replicate];assumption);refine cz<|au rfl<|aI<|bE<|aa rfl<|aM ?_)
    exact⟨rfl,rfl⟩
end
section
set_option maxHeartbeats 4000000
variable {G:Gd} {D:Ad} {Q:LAd} {gt bt:List (Str×AV)} {σ:List AO} {C:Cx} {lv:List (Str×AV)} {I:MI} {S:MSt} {J:LI} {L:LSt} {We N k:Nat} {ns:List Int}
noncomputable abbrev B6:List Str:=["well", "state", "base", "size", "pick"]
noncomputable abbrev B7:List Str:=["len", "_law_draw", "_law_all", "max"]
theorem kB (W:Wd G D gt bt) (Lg:Gl gt bt D) (Y:Law G Q gt) (A:LAt G σ J L) (H:WellAt σ We N ns k) (hk:k < 800) (hz:L.mem.length≤1000000) :
  CtP G 3 σ (.base (Q.fn 1)) [.dyn We,.dyn J.d] (fun r σ'=>∃v,r = .int v∧WellAt σ' We N ns (k+2)∧KeptBut [We] σ σ') (fun _ _=>False):=by
 (refine bC (Y.fD 1 _ rfl) fun pm cd DD=>?_)
 (refine bC (Y.fD 0 _ rfl) fun pm' cd' DN=>?_)
 have B:=W.B
 have g1:=Lg.len
 have g2:=Lg.max
 have g3:=Y.gN 0 _ rfl
 have g4:=Y.gAll
 have hd:=A.d
 have hmm:=A.mm
 refine ch ["well", "state"] B6 B7 ["base", "size", "pick"] 2 DD (by kernel_rfl) rfl (iE fun _ _=>rfl) rfl (by(simp only[lxp,lxq,lxr,lxs,lxt,bV,bU];rfl)) ?_
 (refine aW<|dV rfl (by exact rfl) (by exact rfl) rfl (by rw[bG];rfl) rfl rfl rfl<|b9<|af<|bd rfl ‹_› cO<|af<|cb rfl ‹_› rfl ‹_›<|af<|bd rfl ‹_› dz<|ac<|aB<|c7 ‹_› (by simp only[lxC,lxN,lxA,lxM,lxS,List.length_replicate];exact Int.lt_of_le_of_lt (Int.ofNat_le.mpr hz) (by decide))<|ac<|And.intro (bZ (by(simp only[lxC,lxN,lxA,lxM,lxS,List.length_replicate];decide))) ?_;apply Exists.intro;apply Exists.intro;apply Exists.intro;refine And.intro rfl ?_;apply And.intro;(apply aj;simp only[lxS,lxA,lxC,lxN,lxY,lxZ,Nat.reduceAdd];simp only[bS,bT,Int.reduceToNat,lxg,lxh];rfl);refine aK (by simp only[bK,aE,bS,bT,cK,lxa,bV,bU,lxA,lxM,lxS,lxC,lxN,lxY,lxZ,Nat.reduceAdd,put,aN,String.reduceEq,reduceIte,List.set_set];rfl) (by simp only[bK,aE,bS,bT,cK,lxa,bV,bU,lxA,lxM,lxS,lxC,lxN,lxY,lxZ,Nat.reduceAdd,put,aN,String.reduceEq,reduceIte,List.set_set];rfl)<|b5 rfl<|bF rfl ‹_› rfl ‹_›<|ai rfl<|az<|ac<|aD ‹_› ?_)
 refine cp (cR (m:=5) W Lg Y (H.keep .app) (q1 1 800 1 900 hk rfl) (by decide)) rfl rfl fun r σ₁ qq0=>?_
 (refine bW qq0 fun v r1 r2 r3 r4 r5=>?_;clear qq0)
 subst r1
 by_cases c:v=4
 ·refine cV rfl<|ay rfl<|aa rfl<|dE (fun _=>bL)<|aR (cg ‹_›)<|bE<|aG<|bg<|aP<|az<|af<|aG<|ax ‹_› rfl ‹_›<|i2 (fun _=>cC)<|af<|aG<|ax ‹_› rfl ‹_›<|i2 (fun _=>cC)<|af<|aX rfl<|i2 (fun _=>bh)<|af<|aX rfl<|aa rfl<|o2 (fun _=>bh)<|af<|aG<|aX rfl<|aa rfl<|o2 (fun _=>bh)<|i2 (fun _=>cC)<|ac<|And.intro (bZ (by(simp only[lxC,lxN,lxA,lxM,lxS,List.length_replicate];decide)))<|bP rfl ‹_› rfl ‹_›<|ai rfl<|az<|ac<|aD ‹_› ?_
  refine bX (cR (m:=6) W Lg Y (r3.keep .app) (q1 1 800 2 900 hk rfl) (by decide)) rfl rfl fun r σ₂ qq1=>?_
  (refine bW qq1 fun v s1 s2 s3 s4 s5=>?_;clear qq1)
  subst s1
  obtain⟨x,hx⟩:∃x:Int,([AV.int 0,AV.int (4294967296 - 1),AV.int (4294967296 - 4),AV.int (L.base+2147483648),AV.int (L.base+L.mem.length),AV.int (L.base+L.mem.length - 1)])[v.toNat]? = some (AV.int x):=by
   have:v=0∨v=1∨v=2∨v=3∨v=4∨v=5:=v6 s2
   rcases this with rfl | rfl | rfl | rfl | rfl | rfl<;>exact⟨_,rfl⟩
  have hw:=r3.lt
  have hls:=s4 _ _ (dy (Nat.ne_of_gt hw)) (aj rfl rfl)
  refine bu hls s2.1 (Int.lt_of_lt_of_le s2.2 (by decide)) hx (by intro _ _;with_unfolding_all rfl) ?_
  refine ax ‹_› rfl ‹_›<|o2 (fun _=>cw (by decide))<|aM<|aM ?_
  exact⟨_,rfl,s3,r4.less.trans s4.less (fun _ h=>h) (fun _ h=>h)⟩
 ·refine cV rfl<|ay rfl<|aa rfl<|dE (fun _=>bL)<|au (av ‹_›)<|aI<|bE<|cb rfl ‹_› rfl ‹_›<|az<|af<|aG<|aX rfl<|i2 (fun _=>cC)<|bP rfl ‹_› rfl ‹_›<|ai rfl<|af<|aX rfl<|i2 (fun _=>bh)<|ac<|aD ‹_› ?_
  refine bX (cR (m:=(L.mem.length:Int)+12) W Lg Y r3 (q1 1 800 2 900 hk rfl) (Int.lt_of_lt_of_le (by decide) (Int.add_le_add_right (Int.natCast_nonneg _) _))) rfl rfl fun r σ₂ qq2=>?_
  (refine bW qq2 fun v s1 s2 s3 s4 s5=>?_;clear qq2)
  subst s1
  refine o2 (fun _=>bh)<|ac<|aB<|wo rfl<|aM ?_
  exact⟨_,rfl,s3,r4.less.trans s4 (fun _ h=>h) (fun _ h=>h)⟩
noncomputable abbrev Ap:List Str:=["octets", "total", "octet"]
noncomputable def tV:Stmt:=(dG (iJ 3 "_law_weighed" .none 0)).getD 1 kg
noncomputable abbrev B8 (pm:Value) (cd:Addr):Cx:=iN (iJ 3 "_law_weighed" pm cd) Ap [] 0
theorem wL {O R:Nat} {K:AFl→List (Str×AV)→List AO→Prop} (hR:σ[R]? = some (.list (ms.map .int))):∀ (rest don:List Int) (acc:Int) (oc:AV),ms=don++rest →
  (∀oc',K .next [("octets",.dyn O),("total",.int (rest.foldl (fun t o=>t*256+o) acc)),("octet",oc')] σ) →
   qB G (B8 pm cd) (bk tV).1 (bk tV).2 (fun σ'=>σ'[R]? = some (.list (ms.map .int))) (ms.map .int) don.length [("octets",.dyn O),("total",.int acc),("octet",oc)] σ K:=fun rest=>by
 induction rest with
 | nil =>
  intro don acc oc e hK
  refine ei ?_ hR (hK oc)
  rw[e];simp
 | cons z r ih =>
  intro don acc oc e hK
  have hx:(ms.map AV.int)[don.length]? = some (.int z):=by rw[e];simp
  have lp:=ih (don++[z]) (acc*256+z) (.int z) (by rw[e];simp) hK
  rw[List.length_append,List.length_singleton] at lp
  rw[show bk tV=(_,_) from rfl] at lp ⊢
  dsimp only at lp ⊢
  refine eI hx hR ?_
  refine aw rfl<|aA rfl<|aG<|aX rfl<|i2 (fun _=>fO (cF (by decide) (by decide)))<|aa rfl<|o2 (fun _=>bh)<|ij rfl<|bH ?_
  exact⟨_,Wk.refl _,lp⟩
theorem pR (W:Wd G D gt bt) (Y:Law G Q gt) (hO:σ[O]? = some (.list (ms.map .int))) (hz:ms.length≤1000) :
  CtP G 1 σ (.base (Q.fn 3)) [.dyn O] (fun r σ'=>r = .int (ow ms)∧Keep σ σ') (fun _ _=>False):=by
 (refine bC (Y.fD 3 _ rfl) fun pm cd DD=>?_)
 have B:=W.B
 refine ch ["octets"] Ap [] ["total", "octet"] 0 DD (by kernel_rfl) rfl (jH fun _=>rfl) rfl (by(simp only[lxp,lxq,lxr,lxs,lxt,bV,bU];rfl)) ?_
 refine aA rfl<|bf<|ij rfl<|aW ?_
 refine eJ rfl ?_
 refine xY<|aa rfl ?_
 refine⟨O,ms.map .int,rfl,by assumption,by simp;exact q1 0 1000 0 16777216 hz rfl,?_⟩
 refine oa<|bf<|o1 (fun _=>vr) ?_
 refine⟨rfl,rfl,?_⟩
 rw[← List.map_reverse]
 have hR:(σ++[AO.gone,AO.list (ms.reverse.map AV.int)])[σ.length+1]? = some (.list (ms.reverse.map .int)):=cE (k:=1) rfl rfl
 refine⟨_,_,fun A hh=>jv hh hR,wL (O:=O) hR ms.reverse [] 0 _ rfl fun oc'=>?_⟩
 rw[rM]
 refine ap<|bE<|aa rfl<|aM ?_
 exact⟨rfl,.app⟩
noncomputable abbrev Ca:List Str:=["deed", "answer", "trap"]
theorem fA {K:AV→List AO→Prop} (W:Wd G D gt bt) (Lg:Gl gt bt D) (Y:Law G Q gt) (hl:σ[l]? = some (.lam params body scope qual cl n)) (hk:3≤k)
  (h:CtP G k σ (.dyn l) [] (fun r σ₁=>r ≠ .unk∧K (.dyn σ₁.length) (σ₁++[.list [.str "",r]])) (fun i σ₁=>∃w a,dH D σ₁ i w a∧K (.dyn σ₁.length) (σ₁++[.list [.str w,.int a]]))):CtP G (k+1) σ (.base (Q.fn 6)) [.dyn l] K X:=by
 (refine bC (Y.fD 6 _ rfl) fun pm cd DD=>?_)
 have B:=W.B
 have g1:=Lg.trap
 refine ch ["deed"] Ca ["Trap"] ["answer", "trap"] k DD (by kernel_rfl) rfl (jH fun _=>rfl) rfl (by(simp only[lxp,lxq,lxr,lxs,lxt,bV,bU];rfl)) ?_
 refine aW (vP W.trapC B (by exact rfl) g1 (by decide) (by exact rfl) ?_)
 refine b5 rfl<|iz<|aa rfl<|ac<|And.intro (ok fun _=>xC ‹_›) ?_
 refine bj (CtP.imp h (fun r σ₁ qq4=>?_) (fun i σ₁ qq3=>?_)) rfl (Nat.le_refl _)
 ·(refine bD qq4 fun q0 q=>?_;clear qq4)
  refine ij rfl<|bH<|ap<|aW<|pF<|dC<|aP<|af<|cB<|af<|iA rfl rfl ‹_› (by decide)<|ac<|And.intro (bZ (by(simp only[lxC,lxN,lxA,lxM,lxS,List.length_replicate];decide)))<|aM ?_
  exact q
 ·(refine ci qq3 fun w a zz13 q3=>?_;clear qq3;refine aF zz13 fun j q1 q2=>?_;clear zz13)
  refine⟨⟨j,q1⟩,?_⟩
  refine bE<|aP<|af<|aH<|aa rfl ?_
  refine qR W q1 q2 ?_
  refine af<|aH<|aa rfl ?_
  refine pL W q1 q2 ?_
  refine ac<|And.intro (bZ (by(simp only[lxC,lxN,lxA,lxM,lxS,List.length_replicate];decide)))<|aM<|aM ?_
  exact q3
end
section
set_option maxHeartbeats 4000000
variable {G:Gd} {D:Ad} {Q:LAd} {gt bt:List (Str×AV)} {σ:List AO} {C:Cx} {lv:List (Str×AV)} {I:MI} {S:MSt} {J:LI} {L:LSt} {We N k:Nat} {ns:List Int}
noncomputable abbrev Cj:List Str:=["machine", "state"]
theorem ip (W:Wd G D gt bt) (Lg:Gl gt bt D) (Y:Law G Q gt) (M:Mach D σ I S) (A:LAt G σ J L) (g:Ag S L) :
  CtP G 3 σ (.base (Q.fn 5)) [.dyn I.m,.dyn J.d] (fun r σ'=>r = .bool true∧σ'=σ) (fun _ _=>False):=by
 (refine bC (Y.fD 5 _ rfl) fun pm cd DD=>?_)
 have B:=W.B
 have g1:=Lg.bytes
 have hm:=M.m
 have hme:=M.me
 have hr:=M.r
 have ho:=M.o
 have bM:=M.bM
 have bO:=M.bO
 have hd:=A.d
 have hmm:=A.mm
 have hrr:=A.rr
 have hoo:=A.oo
 have mr:=g.mr
 have or:=g.or
 have l1:L.mem.length≤1000000:=by rw[g.mem,bN] at bM;exact bM
 have l2:L.out.length≤1000000:=by rw[g.out,bN] at bO;exact bO
 refine ch ["machine", "state"] Cj ["bytes"] [] 2 DD (by kernel_rfl) rfl (iE fun _ _=>rfl) rfl (by(simp only[lxp,lxq,lxr,lxs,lxt,bV,bU];rfl)) ?_
 refine bY<|b6<|bo<|aY<|cN rfl ‹_› ‹_› rfl<|bd rfl ‹_› cm ?_
 refine tE rfl (by assumption) (by assumption) (by rw[g.regs]) ?_
 rw[show (S.regs==L.regs)=true by rw[g.regs];simp]
 have e1:=g.pc
 have e2:(S.mem != cc L.mem)=false:=by rw[g.mem];simp
 have e3:(S.out != cc L.out)=false:=by rw[g.out];simp
 refine aJ<|au (eF rfl)<|bo<|aY<|cN rfl ‹_› ‹_› rfl<|bd rfl ‹_› jg<|eL (fun _=>fj)<|au (cj ‹_›)<|cz<|au rfl<|aI<|bY<|b6<|bo<|aY<|cb rfl ‹_› rfl ‹_›<|af<|cN rfl ‹_› ‹_› rfl<|ac<|aT<|ie ‹_› (q1 0 1000000 0 16777216 bM rfl)<|cb rfl ‹_› rfl ‹_›<|af<|bd rfl ‹_› dz<|ac<|aT<|dg rfl ‹_› ‹_› (q1 0 1000000 0 16777216 l1 rfl)<|eL (fun _=>vt)<|au ‹_›<|bo<|aY<|cb rfl ‹_› rfl ‹_›<|af<|cN rfl ‹_› ‹_› rfl<|ac<|aT<|ie ‹_› (q1 0 1000000 0 16777216 bO rfl)<|cb rfl ‹_› rfl ‹_›<|af<|bd rfl ‹_› mB<|ac<|aT<|dg rfl ‹_› ‹_› (q1 0 1000000 0 16777216 l2 rfl)<|eL (fun _=>vt)<|au ‹_›<|cz<|au rfl<|aI<|bE<|gy<|cN rfl ‹_› ‹_› rfl<|bd rfl ‹_› iv<|o2 (fun _=>sW)<|aM ?_
 exact⟨by show AV.bool _=_;rw[g.done];simp,rfl⟩
noncomputable abbrev Bm:List Str:=["heard", "state", "due", "answer"]
theorem f6 (W:Wd G D gt bt) (Y:Law G Q gt) (hH:σ[H]? = some (.list [.str "",a])) (hU:σ[U]? = some (.list [])) (ha:AvE a a true) :
  CtP G 3 σ (.base (Q.fn 7)) [.dyn H,.dyn J.d,.dyn U,a] (fun r σ'=>r = .bool true∧Keep σ σ') (fun _ _=>False):=by
 (refine bC (Y.fD 7 _ rfl) fun pm cd DD=>?_)
 have B:=W.B
 have hau:a ≠ .unk:=by rintro rfl;cases ha
 refine ch ["heard", "state", "due", "answer"] Bm [] [] 2 DD (by kernel_rfl) rfl (so fun _ _ _ _=>rfl) rfl (by(simp only[lxp,lxq,lxr,lxs,lxt,bV,bU];rfl)) ?_
 refine ay rfl<|aa rfl<|aP<|ac<|aL rfl ?_
 refine f9 (r:=true) rfl (by(apply ad;assumption)) (by exact aj rfl rfl) (by exact .nil) ?_
 refine aJ<|au (eF rfl)<|aI<|bE<|gy<|aa rfl<|aP<|bx<|af<|iA rfl rfl ‹_› (by decide)<|ac<|And.intro (bZ (by(simp only[lxC,lxN,lxA,lxM,lxS,List.length_replicate];decide))) ?_
 refine gb (r:=true) rfl (by(apply ad;apply ad;assumption)) (by exact aj rfl rfl) (.cons .s (.cons ha .nil)) ?_
 (apply aM)
 exact⟨rfl,fun i o h=>ad (ad h)⟩
theorem fg {ys:List Str} (W:Wd G D gt bt) (Y:Law G Q gt) (A:LAt G σ J L) (hH:σ[H]? = some (.list [.str w,.int L.pc])) (hU:σ[U]? = some (.list (ys.map .str))) (hw:w∈ys) (hau:a ≠ .unk) :
  CtP G 3 σ (.base (Q.fn 7)) [.dyn H,.dyn J.d,.dyn U,a] (fun r σ'=>r = .bool true∧Keep σ σ') (fun _ _=>False):=by
 (refine bC (Y.fD 7 _ rfl) fun pm cd DD=>?_)
 have B:=W.B
 have hd:=A.d
 have hl0:(ys.map AV.str).length≠([]:List AV).length:=by
  cases ys with
  | nil=>cases hw
  | cons y ys=>simp
 have hany:(ys.any (·==w))=true:=List.any_eq_true.mpr ⟨w,hw,by simp⟩
 refine ch ["heard", "state", "due", "answer"] Bm [] [] 2 DD (by kernel_rfl) rfl (so fun _ _ _ _=>rfl) rfl (by(simp only[lxp,lxq,lxr,lxs,lxt,bV,bU];rfl)) ?_
 refine ay rfl<|aa rfl<|aP<|ac<|aL rfl ?_
 refine eS rfl (by exact ad ‹_›) (by(apply aj;simp only[lxS,lxA,lxC,lxN,lxY,lxZ,Nat.reduceAdd];simp only[bS,bT,Int.reduceToNat,lxg,lxh])) hl0 ?_
 refine aJ<|aR rfl<|bE<|gz<|pH<|gy<|bg<|aa rfl<|bf<|bu (ad ‹_›) (by decide) (by decide) (by simp only[bS,bT,Int.reduceToNat,lxg,lxh];rfl) (fun _ _=>by with_unfolding_all rfl)<|aa rfl ?_
 refine tF (by exact ad ‹_›) ?_
 rw[hany]
 refine aJ<|aR rfl<|lF<|gy<|bg<|aa rfl<|bf<|bu (ad ‹_›) (by decide) (by decide) (by simp only[bS,bT,Int.reduceToNat,lxg,lxh];rfl) (fun _ _=>by with_unfolding_all rfl)<|bd rfl (ad ‹_›) jg<|o2 (fun _=>bL)<|aM<|aM ?_
 exact⟨by show AV.bool _=_;simp,.app⟩
noncomputable abbrev Cs:List Str:=["state", "registers", "asked"]
theorem oQ (W:Wd G D gt bt) (Y:Law G Q gt) (A:LAt G σ J L) (h32:L.regs.length=32) (hz:L.out.length≤1000000) (hi:L.inp.length≤1000000) :
  CtP G 1 σ (.base (Q.fn 4)) [.dyn J.d] (fun r σ'=>∃i,r = .dyn i∧σ.length≤i∧((∃L' J',dl L=some L'∧σ'[i]? = some (.list [])∧LAt G σ' J' L'∧J'.all=J.all∧J'.d=J.d∧(J'.ii=J.ii∨σ.length≤J'.ii)∧KeptBut J.all σ σ')∨(dl L=none∧σ'[i]? = some (.list [.str "ecall"])∧Keep σ σ'))) (fun _ _=>False):=by
 (refine bC (Y.fD 4 _ rfl) fun pm cd DD=>?_)
 have B:=W.B
 have g1:=Y.gAll
 have hd:=A.d
 have hrr:=A.rr
 have hoo:=A.oo
 have hii:=A.ii
 have m2:=A.m2
 have d2:=A.nd.2.1
 have d3:=A.nd.2.2.1
 have d4:=A.nd.2.2.2
 have e17:(L.regs.map AV.int)[(17:Int).toNat]? = some (.int (L.regs.getD 17 0)):=jF h32 17 (by decide)
 have e10:(L.regs.map AV.int)[(10:Int).toNat]? = some (.int (L.regs.getD 10 0)):=jF h32 10 (by decide)
 refine ch ["state"] Cs ["_law_all"] ["registers", "asked"] 0 DD (by kernel_rfl) rfl (jH fun _=>rfl) rfl (by(simp only[lxp,lxq,lxr,lxs,lxt,bV,bU];rfl)) ?_
 have fin:∀v:Int,LAt G (((σ++[AO.list []]).set J.rr (AO.list ((L.regs.set 10 v).map AV.int))++[AO.slc (some 1) none,AO.list ((cut L.inp (some 1) none).map AV.int)]).set J.d (AO.sdict G.w (st (sd J L) (Str.ofString "input") (AV.dyn (σ.length+2))))) { J with ii:=σ.length+2 } { L with regs:=L.regs.set 10 v,inp:=L.inp.drop 1 }:=fun v=>by
  have A1:=((A.keep (σ':=σ++[AO.list []]) .app).setRegs (m:=L.regs.set 10 v)).keep (σ':=(σ++[AO.list []]).set J.rr (AO.list ((L.regs.set 10 v).map AV.int))++[AO.slc (some 1) none,AO.list ((cut L.inp (some 1) none).map AV.int)]) .app
  have q1:=am A.mm
  have q2:=am A.rr
  have q3:=am A.oo
  exact A1.setI (i:=σ.length+2) (ns:=L.inp.drop 1) (by rw[sH];exact cE (n:=σ.length+1) (k:=1) (by simp) rfl) (by lia) (by lia) (by lia) (ub (ns:=L.inp.drop 1))
 have kbb:∀v:Int,KeptBut J.all σ (((σ++[AO.list []]).set J.rr (AO.list ((L.regs.set 10 v).map AV.int))++[AO.slc (some 1) none,AO.list ((cut L.inp (some 1) none).map AV.int)]).set J.d (AO.sdict G.w (st (sd J L) (Str.ofString "input") (AV.dyn (σ.length+2))))):=fun v => .set (by simp) (.app (.set (by simp) (.app (.refl _))))
 unfold dl
 by_cases c1:L.regs.getD 17 0=93
 ·rw[if_pos c1]
  refine aA rfl<|bd rfl ‹_› cm<|ij rfl<|aA rfl<|bg<|aa rfl<|bf<|bu ‹_› (by decide) (by decide) ‹_› (fun _ _=>by with_unfolding_all rfl)<|eN rfl<|ay rfl<|aa rfl<|dE (fun _=>bL)<|aR (cg ‹_›)<|aA rfl<|et<|ck<|aa rfl<|cB<|eK ‹_› (by simp only[lxC,lxN,lxA,lxM,lxS,List.length_replicate];decide)<|ap<|aI<|bE<|aP<|ac<|aL rfl<|aM ?_
  refine⟨_,rfl,by simp,.inl ⟨_,J,rfl,aj (by simp) rfl,(A.setD (L':={ L with done:=true }) wY rfl rfl rfl rfl).keep .app,rfl,rfl,.inl rfl,.app (.set (by simp) (.refl _))⟩⟩
 ·rw[if_neg c1]
  by_cases c2:L.regs.getD 17 0=1
  ·rw[if_pos c2]
   (refine aA rfl<|bd rfl ‹_› cm<|ij rfl<|aA rfl<|bg<|aa rfl<|bf<|bu ‹_› (by decide) (by decide) ‹_› (fun _ _=>by with_unfolding_all rfl)<|eN rfl<|ay rfl<|aa rfl<|dE (fun _=>bL)<|au (av ‹_›)<|ay rfl<|aa rfl<|dE (fun _=>bL)<|aR (cg ‹_›)<|cY rfl<|dC<|em<|bd rfl ‹_› mB<|dv ‹_›<|af<|aG<|bg<|aa rfl<|bf<|bu ‹_› (by decide) (by decide) ‹_› (fun _ _=>by with_unfolding_all rfl)<|i2 (fun _=>cw (by decide))<|ac<|aB ?_;dsimp only[bU,bV];refine dW ‹_› (by simp only[lxC,lxN,lxA,lxM,lxS,List.length_replicate];exact q1 0 1000000 0 16777215 hz rfl)<|ap<|aI<|aI<|bE<|aP<|ac<|aL rfl<|aM ?_)
   rw[show L.out.map AV.int++[AV.int (L.regs.getD 10 0 % 256)]=(L.out++[L.regs.getD 10 0 % 256]).map AV.int by simp]
   exact⟨_,rfl,by simp,.inl ⟨_,J,rfl,aj rfl rfl,A.setOut.keep .app,rfl,rfl,.inl rfl,.app (.set (by simp) (.refl _))⟩⟩
  ·rw[if_neg c2]
   by_cases c3:L.regs.getD 17 0=2
   ·rw[if_pos c3]
    by_cases c4:L.inp=[]
    ·rw[if_pos c4]
     refine aA rfl<|bd rfl ‹_› cm<|ij rfl<|aA rfl<|bg<|aa rfl<|bf<|bu ‹_› (by decide) (by decide) ‹_› (fun _ _=>by with_unfolding_all rfl)<|eN rfl<|ay rfl<|aa rfl<|dE (fun _=>bL)<|au (av ‹_›)<|ay rfl<|aa rfl<|dE (fun _=>bL)<|au (av ‹_›)<|ay rfl<|aa rfl<|dE (fun _=>bL)<|aR (cg ‹_›)<|aA rfl<|eM<|aY<|bd rfl ‹_› gX<|aP<|ac<|aL rfl ?_
     refine f9 (r:=true) rfl (by(apply ad;assumption)) (by(apply aj;simp only[lxS,lxA,lxC,lxN,lxY,lxZ,Nat.reduceAdd];simp only[bS,bT,Int.reduceToNat,lxg,lxh];rfl)) (by rw[c4];exact .nil) ?_
     (refine aJ<|au (eF rfl)<|aG<|ax ‹_› rfl ‹_›<|i2 (fun _=>cC)<|ck<|aa rfl<|bf<|db (ad ‹_›) (by decide) (by lia) (by decide)<|ap<|aA rfl<|bg<|bg<|aa rfl<|cB ?_;apply jy;(apply ah;lia;apply ad;assumption);exact gX;(intro _ _);with_unfolding_all rfl;refine ka<|bf ?_;refine⟨_,rfl,?_⟩;apply iB;(apply ad;apply ah;assumption;apply ad;assumption);(apply aj;simp only[lxS,lxA,lxC,lxN,lxY,lxZ,Nat.reduceAdd];simp only[bS,bT,Int.reduceToNat,lxg,lxh];rfl);exact q1 0 1000000 0 16777216 hi rfl;(intro _ _);with_unfolding_all rfl;refine ck<|aa rfl<|cB ?_;apply eK;(apply ad;apply ad;apply ah;lia;apply ad;assumption);(simp only[lxC,lxN,lxA,lxM,lxS,List.length_replicate];decide);apply aK;(simp only[bK,aE,bS,bT,cK,lxa,bV,bU,lxA,lxM,lxS,lxC,lxN,lxY,lxZ,Nat.reduceAdd,put,aN,String.reduceEq,reduceIte,List.set_set];rfl);dsimp only[bS,bT,cK,bV,bU];refine aI<|aI<|aI<|bE<|aP<|ac<|aL rfl<|aM ?_)
     exact⟨_,rfl,by simp;lia,.inl ⟨_,{ J with ii:=σ.length+2 },rfl,aj rfl rfl,(fin _).keep .app,rfl,rfl,.inr (by simp),.app (kbb _)⟩⟩
    ·rw[if_neg c4]
     have e0:(L.inp.map AV.int)[(0:Int).toNat]? = some (.int (L.inp.getD 0 0)):=by
      cases h:L.inp with
      | nil=>exact absurd h c4
      | cons x xs=>rfl
     have hl0:(L.inp.map AV.int).length≠([]:List AV).length:=by simpa using c4
     refine aA rfl<|bd rfl ‹_› cm<|ij rfl<|aA rfl<|bg<|aa rfl<|bf<|bu ‹_› (by decide) (by decide) ‹_› (fun _ _=>by with_unfolding_all rfl)<|eN rfl<|ay rfl<|aa rfl<|dE (fun _=>bL)<|au (av ‹_›)<|ay rfl<|aa rfl<|dE (fun _=>bL)<|au (av ‹_›)<|ay rfl<|aa rfl<|dE (fun _=>bL)<|aR (cg ‹_›)<|aA rfl<|eM<|aY<|bd rfl ‹_› gX<|aP<|ac<|aL rfl ?_
     refine eS rfl (by(apply ad;assumption)) (by(apply aj;simp only[lxS,lxA,lxC,lxN,lxY,lxZ,Nat.reduceAdd];simp only[bS,bT,Int.reduceToNat,lxg,lxh])) hl0 ?_
     (refine aJ<|aR rfl<|bg<|bd rfl (ad ‹_›) gX<|bf<|bu (ad ‹_›) (by decide) (by decide) ‹_› (fun _ _=>by with_unfolding_all rfl)<|ck<|aa rfl<|bf<|db (ad ‹_›) (by decide) (by lia) (by decide)<|ap<|aA rfl<|bg<|bg<|aa rfl<|cB ?_;apply jy;(apply ah;lia;apply ad;assumption);exact gX;(intro _ _);with_unfolding_all rfl;refine ka<|bf ?_;refine⟨_,rfl,?_⟩;apply iB;(apply ad;apply ah;assumption;apply ad;assumption);(apply aj;simp only[lxS,lxA,lxC,lxN,lxY,lxZ,Nat.reduceAdd];simp only[bS,bT,Int.reduceToNat,lxg,lxh];rfl);exact q1 0 1000000 0 16777216 hi rfl;(intro _ _);with_unfolding_all rfl;refine ck<|aa rfl<|cB ?_;apply eK;(apply ad;apply ad;apply ah;lia;apply ad;assumption);(simp only[lxC,lxN,lxA,lxM,lxS,List.length_replicate];decide);apply aK;(simp only[bK,aE,bS,bT,cK,lxa,bV,bU,lxA,lxM,lxS,lxC,lxN,lxY,lxZ,Nat.reduceAdd,put,aN,String.reduceEq,reduceIte,List.set_set];rfl);dsimp only[bS,bT,cK,bV,bU];refine aI<|aI<|aI<|bE<|aP<|ac<|aL rfl<|aM ?_)
     exact⟨_,rfl,by simp;lia,.inl ⟨_,{ J with ii:=σ.length+2 },rfl,aj rfl rfl,(fin _).keep .app,rfl,rfl,.inr (by simp),.app (kbb _)⟩⟩
   ·rw[if_neg c3]
    refine aA rfl<|bd rfl ‹_› cm<|ij rfl<|aA rfl<|bg<|aa rfl<|bf<|bu ‹_› (by decide) (by decide) ‹_› (fun _ _=>by with_unfolding_all rfl)<|eN rfl<|ay rfl<|aa rfl<|dE (fun _=>bL)<|au (av ‹_›)<|ay rfl<|aa rfl<|dE (fun _=>bL)<|au (av ‹_›)<|ay rfl<|aa rfl<|dE (fun _=>bL)<|au (av ‹_›)<|bE<|aP<|bx<|ac<|aL rfl<|aM<|aM<|aM<|aM ?_
    exact⟨_,rfl,by simp,.inr ⟨rfl,aj rfl rfl,.app⟩⟩
end
section
set_option maxHeartbeats 8000000
variable {G:Gd} {D:Ad} {Q:LAd} {gt bt:List (Str×AV)} {σ:List AO} {C:Cx} {lv:List (Str×AV)} {I:MI} {S:MSt} {J:LI} {L:LSt} {We N k:Nat} {ns:List Int}
theorem ScopeC.of (h:ScopeC fd names ls cs gs) (e:fd'.scope=fd.scope) (c:fd'.closure=[]) (g:fd'.globals=mainGlobals) (b:fd'.builtins=builtinsNs):ScopeC fd' names ls cs gs :=
 ⟨e ▸ h.kind,e ▸ h.co,e ▸ h.gen,e ▸ h.loc,e ▸ h.cel,e ▸ h.glob,e ▸ h.par,e ▸ h.cells,h.nodup,h.cnodup,c,g,b⟩
noncomputable abbrev Aw:List Str:=["well", "state", "due", "heard", "place"]
noncomputable abbrev oF:List Str:=["machine", "address", "value", "width"]
noncomputable abbrev Ax:List Str:=["_law_where", "_law_draw", "_law_faults", "_law_told", "range", "_law_agrees"]
noncomputable def ud:Stmt:=match (dG (iJ 8 "_law_stored" .none 0)).getD 4 kg with
 | .If _ b _ _=>b.getD 0 kg
 | _=>kg
noncomputable abbrev Ci (pm:Value) (cd:Addr) (n:Nat):Cx:=fM (iJ 8 "_law_stored" pm cd) Aw oF Ax n 9
noncomputable abbrev Av (We d du he:Nat) (pl:AV):List (Str×AV):=[("well",.dyn We),("state",.dyn d),("due",.dyn du),("heard",.dyn he),("place",pl)]
theorem wZ {n w du he:Nat} (hw:w≤4) (h0:L.base≤a) (h1:a+w≤L.base+L.mem.length) (hz:L.mem.length≤1000000):∀ (d j:Nat) (σ:List AO) (m:List Int) (pl:AV) (K:AFl→List (Str×AV)→List AO→Prop),j+d=w→LAt G σ J { L with mem:=m }→m.length=L.mem.length →
  σ[n+1]? = some (.cell (some (.int a)))→σ[n+2]? = some (.cell (some (.int v))) →
  (∀pl' σ',LAt G σ' J { L with mem:=setL m ((a - L.base).toNat+j) (KTBy.little d (v / 256 ^ j)) }→KeptBut [J.mm] σ σ'→K .next (Av We J.d du he pl') σ') →
  qB G (Ci pm cd n) (bk ud).1 (bk ud).2 (fun _=>True) ((List.range w).map fun(j:Nat)=>AV.int (j:Int)) j (Av We J.d du he pl) σ K:=by
 intro d
 have la:(bi oF n).lookup (Str.ofString "address")=some (n+1):=bR 1 rfl (by decide +kernel)
 have lv:(bi oF n).lookup (Str.ofString "value")=some (n+2):=bR 2 rfl (by decide +kernel)
 induction d with
 | zero =>
  intro j σ m pl K hj A hm hca hcv hK
  exact ei (by simp;assumption) trivial (hK pl σ A (.refl _))
 | succ d ih =>
  intro j σ m pl K hj A hm hca hcv hK
  have hx:((List.range w).map fun(j:Nat)=>AV.int (j:Int))[j]? = some (.int (j:Int)):=by rw[List.getElem?_map,List.getElem?_range (mI (Nat.le_of_eq hj) (Nat.zero_le d))];rfl
  have hd:=A.d
  have hmm:=A.mm
  have hp:(0:Int) < 256 ^ (j:Int).toNat:=by
   rw[Int.toNat_natCast];exact Int.pow_pos (by decide)
  have hp2:(256:Int) ^ (j:Int).toNat < 2 ^ 64:=by
   rw[Int.toNat_natCast]
   have:j=0∨j=1∨j=2∨j=3:=by lia
   rcases this with rfl | rfl | rfl | rfl<;>decide
  have hidx:(a - L.base+(j:Int)).toNat=(a - L.base).toNat+j:=by lia
  have A':=A.setMem (m:=m.set ((a - L.base).toNat+j) (v / 256 ^ j % 256))
  have ne1:J.mm≠n+1:=aO hmm hca (by simp)
  have ne2:J.mm≠n+2:=aO hmm hcv (by simp)
  have lp:=ih (j+1) _ _ (.int (j:Int)) K (Nat.le_antisymm (lU (Nat.le_of_eq hj)) (lU (Nat.le_of_eq hj.symm))) A' (by simp[hm]) (ah ne1 hca) (ah ne2 hcv) (fun pl' σ' q1 q2=>hK pl' σ' (by
   have e:v / 256 ^ j / 256=v / 256 ^ (j+1):=by
    rw[Int.ediv_ediv_of_nonneg (Int.pow_nonneg (by decide)),Int.pow_succ]
   rw[← e] at q1;exact q1) (fun i o hi eo=>q2 i o hi (ah (by simpa using fun q=>hi (by simp[q])) eo)))
  rw[show bk ud=(_,_) from rfl] at lp ⊢
  dsimp only at lp ⊢
  refine eI hx trivial ?_
  (refine aw rfl<|aA rfl<|aG<|aG<|aQ rfl ‹_› ‹_›<|aG<|bf<|aa rfl<|o2 (fun _=>zr (Int.natCast_nonneg _) (oZ (Int.ofNat_le.mpr (Nat.le_of_eq hj)) (Int.natCast_nonneg d) (Int.ofNat_le.mpr hw) (by simp +arith only[Int.natCast_add,Int.cast_ofNat_Int])) (by decide))<|o2 (fun _=>qy (by(with_reducible assumption)) (by(with_reducible assumption)))<|i2 (fun _=>cw (by decide))<|ck<|bd rfl ‹_› dz<|aG<|aG<|aQ rfl ‹_› ‹_›<|bd rfl ‹_› cO<|o2 (fun _=>cC)<|aa rfl<|o2 (fun _=>bh)<|db ‹_› (by simp only[lxC,lxN,lxA,lxM,lxS,List.length_replicate];exact nC h0 (Int.natCast_nonneg j)) (by simp only[lxC,lxN,lxA,lxM,lxS,List.length_replicate];exact oZ (Int.ofNat_le.mpr (Nat.le_of_eq hm.symm)) h1 (Int.add_le_add (Int.ofNat_le.mpr (Nat.le_of_eq hj)) (Int.natCast_nonneg d)) (by simp +arith only[Int.natCast_add,Int.cast_ofNat_Int])) (by simp only[lxC,lxN,lxA,lxM,lxS,List.length_replicate];lia) ?_;apply aK;rfl;dsimp only[bS,bT,cK,bV,bU];refine bH ?_)
  rw[hidx,Int.toNat_natCast]
  exact⟨_,Wk.refl _,lp⟩
theorem rT (W:Wd G D gt bt) (Lg:Gl gt bt D) (Y:Law G Q gt) (h:Hq G D Q σ We N I S J L ns k) (g:Ag S L) (hd:L.done=false) (hk:k < 700) :
  CtP G 10 σ (.base (Q.fn 8)) [.dyn We,.dyn I.m,.dyn J.d] (DeedOk G D Q σ We N I J L ns (k+4)) (fun _ _=>False):=by
 (refine b8 (Y.lD 0 _ _ rfl) fun pm DD=>?_)
 (refine bC (Y.fD 1 _ rfl) fun pm1 cd1 D1=>?_)
 (refine bC (Y.fD 0 _ rfl) fun pm0 cd0 D0=>?_)
 (refine bC (Y.fD 2 _ rfl) fun pm2 cd2 D2=>?_)
 (refine bC (Y.fD 6 _ rfl) fun pm6 cd6 D6=>?_)
 (refine bC (Y.fD 7 _ rfl) fun pm7 cd7 D7=>?_)
 have B:=W.B
 have g0:=Y.gN 0 _ rfl
 have g1:=Y.gN 1 _ rfl
 have g2:=Y.gN 2 _ rfl
 have g6:=Y.gN 6 _ rfl
 have g7:=Y.gN 7 _ rfl
 have g8:=Lg.range
 (refine aF (Y.glob) fun mg gl1 gl2=>?_)
 have hml:L.mem.length≤1000000:=by have:=h.M.bM;rw[g.mem,bN] at this;exact this
 refine ic ["well", "machine", "state"] Aw oF Ax ["due", "heard", "place"] 9 (cvs:=[some (.dyn I.m),none,none,none]) (lv:=[("well",.dyn We),("state",.dyn J.d),("due",.unk),("heard",.unk),("place",.unk)]) DD (by kernel_rfl) (fun _=>rfl) rfl (fW fun _ _ _=>rfl) rfl (by
  with_unfolding_all rfl) (by with_unfolding_all rfl) ?_
 simp only[lxs,lxt]
 have lm:(bi oF σ.length).lookup (Str.ofString "machine")=some σ.length:=bR 0 rfl (by decide +kernel)
 have la:(bi oF σ.length).lookup (Str.ofString "address")=some (σ.length+1):=bR 1 rfl (by decide +kernel)
 have lv:(bi oF σ.length).lookup (Str.ofString "value")=some (σ.length+2):=bR 2 rfl (by decide +kernel)
 have lw:(bi oF σ.length).lookup (Str.ofString "width")=some (σ.length+3):=bR 3 rfl (by decide +kernel)
 have hcm:(σ++[AO.cell (some (AV.dyn I.m)),AO.cell none,AO.cell none,AO.cell none])[σ.length]? = some (.cell (some (.dyn I.m))):=aj rfl rfl
 have hca:(σ++[AO.cell (some (AV.dyn I.m)),AO.cell none,AO.cell none,AO.cell none])[σ.length+1]? = some (.cell none):=cE rfl rfl
 have hcv:(σ++[AO.cell (some (AV.dyn I.m)),AO.cell none,AO.cell none,AO.cell none])[σ.length+2]? = some (.cell none):=cE rfl rfl
 have hcw:(σ++[AO.cell (some (AV.dyn I.m)),AO.cell none,AO.cell none,AO.cell none])[σ.length+3]? = some (.cell none):=cE rfl rfl
 have hK:KeptBut (fQ We I J) σ (σ++[AO.cell (some (AV.dyn I.m)),AO.cell none,AO.cell none,AO.cell none]) := .app (.refl _)
 have hh:=h.app (l:=[AO.cell (some (AV.dyn I.m)),AO.cell none,AO.cell none,AO.cell none])
 have hWe:=h.H.lt
 generalize σ++[AO.cell (some (AV.dyn I.m)),AO.cell none,AO.cell none,AO.cell none]=σ0 at hcm hca hcv hcw hK hh
 generalize hn:σ.length=n at lm la lv lw hcm hca hcv hcw hWe
 refine aW (ej "address" _ (.head _) rfl (by exact rfl) ?_)
 refine b9<|af<|bP rfl ‹_› rfl ‹_›<|ai rfl<|ai rfl<|ac<|aD ‹_› ?_
 refine bX (kB W Lg Y hh.A hh.H (q1 1 700 1 800 hk rfl) hml) rfl rfl fun r σ1 qq0=>?_
 (refine fX qq0 fun a r1 r2 r3=>?_;clear qq0)
 subst r1
 replace hh:=hh.drawn r3 r2
 replace hK:=hK.trans r3 (fun _ h=>h) dp
 replace hcm:=r3 _ _ (dy (Nat.ne_of_gt hWe)) hcm
 replace hca:=r3 _ _ (dy (Nat.ne_of_gt (q1 1 0 1 1 hWe rfl))) hca
 replace hcv:=r3 _ _ (dy (Nat.ne_of_gt (q1 1 0 1 2 hWe rfl))) hcv
 replace hcw:=r3 _ _ (dy (Nat.ne_of_gt (q1 1 0 1 3 hWe rfl))) hcw
 clear r2 r3
 refine af<|bg<|aP<|az<|az<|az<|az<|ac<|aL rfl<|bP rfl ‹_› rfl ‹_›<|ai rfl<|az<|ac<|aD ‹_› ?_
 refine bX (cR (m:=4) W Lg Y (hh.app (l:=[AO.list [AV.int 1,AV.int 2,AV.int 4,AV.int 4]])).H (q1 1 700 3 900 hk rfl) (by decide)) rfl rfl fun r σ2 qq1=>?_
 (refine bW qq1 fun v r1 r2 r3 r4 r5=>?_;clear qq1)
 subst r1
 have hls:=r4 _ _ (dy (by have:=hh.H.lt;exact Nat.ne_of_gt this)) (aj (l:=σ1) (m:=[AO.list [AV.int 1,AV.int 2,AV.int 4,AV.int 4]]) rfl rfl)
 replace hh:=hh.app.drawn r4 r3
 replace hK:=hK.trans r4.less (fun _ h=>h) dp
 replace hcm:=r4 _ _ (dy (Nat.ne_of_gt hWe)) (ad hcm)
 replace hca:=r4 _ _ (dy (Nat.ne_of_gt (q1 1 0 1 1 hWe rfl))) (ad hca)
 replace hcv:=r4 _ _ (dy (Nat.ne_of_gt (q1 1 0 1 2 hWe rfl))) (ad hcv)
 replace hcw:=r4 _ _ (dy (Nat.ne_of_gt (q1 1 0 1 3 hWe rfl))) (ad hcw)
 clear r3 r4 r5
 obtain⟨w,hw,hx⟩:∃w:Nat,W124 w∧([AV.int 1,AV.int 2,AV.int 4,AV.int 4])[v.toNat]? = some (AV.int (w:Int)):=by
  have:v=0∨v=1∨v=2∨v=3:=v4 r2
  rcases this with rfl | rfl | rfl | rfl
  ·exact⟨1,.inl rfl,rfl⟩
  ·exact⟨2,.inr (.inl rfl),rfl⟩
  ·exact⟨4,.inr (.inr rfl),rfl⟩
  ·exact⟨4,.inr (.inr rfl),rfl⟩
 refine bu hls r2.1 (Int.lt_of_lt_of_le r2.2 (by decide)) hx (by intro _ _;with_unfolding_all rfl) ?_
 clear hls hx r2
 (refine ac<|And.intro (bZ (by(simp only[lxC,lxN,lxA,lxM,lxS,List.length_replicate];decide))) ?_;apply ig;exact rfl;(apply aj;simp only[lxS,lxA,lxC,lxN,lxY,lxZ,Nat.reduceAdd];simp only[bS,bT,Int.reduceToNat,lxg,lxh];rfl);exact rfl;(intro _);rfl;(intro _);rfl;refine bQ ?_;apply de;exact rfl;exact rfl;(with_reducible assumption);(apply ad;(with_reducible assumption));refine bQ ?_;apply de;exact rfl;exact rfl;(with_reducible assumption);(apply ah;exact eW rfl;apply ad;(with_reducible assumption));refine dP<|ap<|aA rfl<|aG<|bP rfl ‹_› rfl ‹_›<|ai rfl<|az<|ac<|aD ‹_› ?_)
 replace hh:=(hh.app (l:=[AO.tuple [AV.int a,AV.int (w:Int)]])).cell (a:=some (.int a)) (ad hca)
 replace hh:=hh.cell (a:=some (.int (w:Int))) (ah (by simp) (ad hcw))
 replace hK:=((hK.app (l:=[AO.tuple [AV.int a,AV.int (w:Int)]])).setNew (j:=n+1) (a := .cell (some (.int a))) (q1 0 0 0 1 (Nat.le_of_eq hn) rfl)).setNew (j:=n+3) (a := .cell (some (.int (w:Int)))) (q1 0 0 0 3 (Nat.le_of_eq hn) rfl)
 replace hcm:=ah (i:=n+3) (x := .cell (some (.int (w:Int)))) (by simp) (ah (i:=n+1) (x := .cell (some (.int a))) (Nat.ne_of_gt (Nat.le_refl _)) (ad (l:=[AO.tuple [AV.int a,AV.int (w:Int)]]) hcm))
 replace hcv:=ah (i:=n+3) (x := .cell (some (.int (w:Int)))) (Nat.ne_of_gt (Nat.le_refl _)) (ah (i:=n+1) (x := .cell (some (.int a))) (Nat.ne_of_lt (Nat.le_refl _)) (ad (l:=[AO.tuple [AV.int a,AV.int (w:Int)]]) hcv))
 replace hca:=ah (i:=n+3) (x := .cell (some (.int (w:Int)))) (by simp) (aU (x := .cell (some (.int a))) (ad (l:=[AO.tuple [AV.int a,AV.int (w:Int)]]) hca))
 replace hcw:=aU (x := .cell (some (.int (w:Int)))) (ah (i:=n+1) (x := .cell (some (.int a))) (by simp) (ad (l:=[AO.tuple [AV.int a,AV.int (w:Int)]]) hcw))
 generalize ((σ2++[AO.tuple [AV.int a,AV.int (w:Int)]]).set (n+1) (AO.cell (some (AV.int a)))).set (n+3) (AO.cell (some (AV.int (w:Int))))=σ3 at hh hK hcm hca hcv hcw
 refine bX (cR (m:=1099511627776) W Lg Y hh.H (q1 1 700 4 900 hk rfl) (by decide)) rfl rfl fun r σ4 qq2=>?_
 (refine bW qq2 fun v r1 r2 r3 r4 r5=>?_;clear qq2)
 subst r1
 replace hh:=hh.drawn r4 r3
 replace hK:=hK.trans r4 (fun _ h=>h) dp
 replace hcm:=r4 _ _ (dy (Nat.ne_of_gt hWe)) hcm
 replace hca:=r4 _ _ (dy (Nat.ne_of_gt (q1 1 0 1 1 hWe rfl))) hca
 replace hcv:=r4 _ _ (dy (Nat.ne_of_gt (q1 1 0 1 2 hWe rfl))) hcv
 replace hcw:=r4 _ _ (dy (Nat.ne_of_gt (q1 1 0 1 3 hWe rfl))) hcw
 clear r2 r3 r4 r5
 (refine i2 (fun _=>cC)<|de rfl rfl ‹_› ‹_›<|ap<|b5 rfl<|bF rfl ‹_› rfl ‹_›<|ai rfl<|af ?_;apply aQ;exact rfl;(with_reducible assumption);(apply ah;exact eW rfl;(with_reducible assumption));refine af ?_;apply aQ;exact rfl;(with_reducible assumption);(apply ah;exact eW rfl;(with_reducible assumption));refine af ?_;apply aQ;exact rfl;(with_reducible assumption);(apply ah;exact eW rfl;(with_reducible assumption));refine ac<|aD ‹_› ?_)
 replace hh:=hh.cell (a:=some (.int (v - 274877906944))) hcv
 replace hK:=hK.setNew (j:=n+2) (a := .cell (some (.int (v - 274877906944)))) (q1 0 0 0 2 (Nat.le_of_eq hn) rfl)
 replace hcm:=ah (i:=n+2) (x := .cell (some (.int (v - 274877906944)))) (by simp) hcm
 replace hca:=ah (i:=n+2) (x := .cell (some (.int (v - 274877906944)))) (Nat.ne_of_gt (Nat.le_refl _)) hca
 replace hcw:=ah (i:=n+2) (x := .cell (some (.int (v - 274877906944)))) (Nat.ne_of_lt (Nat.le_refl _)) hcw
 replace hcv:=aU (x := .cell (some (.int (v - 274877906944)))) hcv
 generalize v - 274877906944=v at hh hK hcm hca hcw hcv
 generalize σ4.set (n+2) (AO.cell (some (AV.int v)))=σ5 at hh hK hcm hca hcv hcw
 have hwl:=hw.le
 refine cp (ix (a:=a) (w:=(w:Int)) (m:=(w:Int)) W Lg Y hh.A (Int.lt_of_lt_of_le (by decide) (Int.ofNat_le.mpr hwl.1)) hml) rfl rfl fun r σ6 qq3=>?_
 (refine bD qq3 fun r1 r2=>?_;clear qq3)
 subst r1 r2
 have hdu:(σ5++[AO.list ((bc L a w w).map AV.str)])[σ5.length]? = some (.list ((bc L a w w).map .str)):=aj rfl rfl
 have ofd:=hh.newOff (Nat.le_refl _)
 replace hh:=hh.app (l:=[AO.list ((bc L a w w).map AV.str)])
 replace hK:=hK.app (l:=[AO.list ((bc L a w w).map AV.str)])
 replace hcm:=ad (l:=[AO.list ((bc L a w w).map AV.str)]) hcm
 replace hca:=ad (l:=[AO.list ((bc L a w w).map AV.str)]) hca
 replace hcv:=ad (l:=[AO.list ((bc L a w w).map AV.str)]) hcv
 replace hcw:=ad (l:=[AO.list ((bc L a w w).map AV.str)]) hcw
 generalize σ5.length=du at hdu ofd
 generalize σ5++[AO.list ((bc L a w w).map AV.str)]=σ6 at hh hK hcm hca hcv hcw hdu
 refine eN rfl<|b5 rfl<|bF rfl ‹_› rfl ‹_›<|af ?_
 refine dw (T:=0) (cl:=[("width",n+3),("value",n+2),("machine",n),("address",n+1)]) (hh.tabs 0 (by decide)) (fun _=>rfl) (fun env f h=>by unfold closureFor cellOf;rw[h];rfl) (fun p hp=>?_) gl1 (Y.tabP 0 (by decide)) rfl (Y.hd 0 (by decide)) (gl2 0 (by decide)) (fun i k' σ7 q1 q2 q3 q4=>?_)
 ·have z1:=am hcm
  have z2:=am hca
  have z3:=am hcv
  have z4:=am hcw
  simp only[lxm,lxn,or_false] at hp
  rcases hp with rfl | rfl | rfl | rfl
  ·exact z4
  ·exact z3
  ·exact z1
  ·exact z2
 have nt:=hh.tabOff (t:=0) (by decide)
 (refine aF (hh.tabs 0 (by decide)) fun ts0 ht0 _=>?_)
 replace hdu:=q4 _ _ (dy (by lia)) hdu
 replace hcm:=q4 _ _ (dy (aO hcm ht0 (by simp))) hcm
 replace hca:=q4 _ _ (dy (aO hca ht0 (by simp))) hca
 replace hcv:=q4 _ _ (dy (aO hcv ht0 (by simp))) hcv
 replace hcw:=q4 _ _ (dy (aO hcw ht0 (by simp))) hcw
 replace hh:=hh.made (by decide) q4 q3
 replace hK:=hK.trans q4 (fun _ h=>h) (e7 (by decide))
 clear ht0 nt
 refine ac<|aD ‹_› ?_
 refine bj (fA (k:=8) W Lg Y q1 (by decide) (fG (n:=7) (cs:=["address", "machine", "value", "width"]) (gs:=[]) q1 q2 Y.lim ⟨rfl,rfl,rfl,by decide +kernel,by decide +kernel,by decide +kernel⟩ (fun _ _ _ _=>rfl) ?_)) rfl (by decide)
 have hm:=hh.M.m
 (refine bq<|aQ rfl rfl ‹_›<|zP ‹_› ‹_› rfl<|af<|aQ rfl rfl ‹_›<|af<|aQ rfl rfl ‹_›<|af<|aQ rfl rfl ‹_›<|ac<|And.intro (ok fun _=>by(apply di;((with_reducible assumption));(exact rfl))) ?_;dsimp only[bU,bV])
 have ofa:=hh.offS hca (by simp) (by simp) (by simp) (by simp) (by simp)
 have ofv:=hh.offS hcv (by simp) (by simp) (by simp) (by simp) (by simp)
 have ofw:=hh.offS hcw (by simp) (by simp) (by simp) (by simp) (by simp)
 refine bj (CtP.imp (ua (a:=a) (v:=v) hw W Lg hh.M hh.M.bM) (fun r σ8 qq5=>?_) (fun i σ8 qq4=>?_)) rfl (by decide)
 ·(refine fY qq5 fun zz11 r1 M8 K8=>?_;clear qq5;refine bD zz11 fun e1 e2=>?_;clear zz11)
  subst r1
  refine⟨by simp,?_⟩
  have K8':KeptBut I.all σ7 σ8:=fun i o hi e=>K8 i o (fun q=>hi (by simp at q;subst q;simp)) e
  have hin:=(g.inMem hh.M.len a w).mp e2
  have hf:bc L a w w=[]:=ey e1 hin
  replace hdu:=K8' _ _ ofd.1 hdu
  rw[hf] at hdu
  replace hca:=K8' _ _ ofa.1 hca
  replace hcv:=K8' _ _ ofv.1 hcv
  replace hcw:=K8' _ _ ofw.1 hcw
  replace hh:=hh.mach K8' M8
  replace hK:=hK.trans K8' (fun _ h=>h) hG
  have g8:=g.store (v:=v) hw hin.1 hin.2
  clear K8 K8' M8
  refine fP rfl<|ay rfl<|aa rfl<|aP<|ac<|aL rfl ?_
  refine gb (r:=true) rfl (by(apply ad;apply ad;(with_reducible assumption))) (by(apply aj;simp only[lxS,lxA,lxC,lxN,lxY,lxZ,Nat.reduceAdd];simp only[bS,bT,Int.reduceToNat,lxg,lxh];rfl)) (by exact .nil) ?_
  refine aJ<|aR rfl<|aW ?_
  refine eJ rfl ?_
  (refine cb rfl ‹_› rfl ‹_›<|af ?_;apply aQ;exact rfl;(with_reducible assumption);(apply ad;apply ad;(with_reducible assumption));refine ac<|aT<|fw ?_)
  refine⟨_,_,fun A hh=>f7 hh (by(apply aj;simp only[lxS,lxA,lxC,lxN,lxY,lxZ,Nat.reduceAdd];simp only[bS,bT,Int.reduceToNat,lxg,lxh];rfl)) (by exact Int.lt_of_le_of_lt (Int.ofNat_le.mpr hwl.2) (by decide)) (by simp),?_⟩
  rw[show ((w:Int)).toNat=w by simp]
  refine wZ (L:=L) (J:=J) (w:=w) (a:=a) (v:=v) (n:=n) hwl.2 hin.1 hin.2 hml w 0 _ L.mem _ _ (by simp) (hh.app.app.app).A rfl (ad (ad (ad hca))) (ad (ad (ad hcv))) (fun pl' σ9 A9 K9=>?_)
  have hdu9:=K9 _ _ (dy fun q=>ofd.2.1 (by rw[q];simp)) (ad (ad (ad hdu)))
  have hhe9:=K9 σ8.length _ (dy (by have:=am hh.A.mm;exact Nat.ne_of_gt this)) (ad (ad (aj rfl rfl)))
  have hh9:=(hh.app.app.app).state (K9.trans (.refl J.all) (fun i h=>by simp at h;subst h;simp) (fun _ h=>h)) A9 rfl (.inl rfl)
  have hK9:KeptBut (fQ We I J) σ σ9:=hK.app.app.app.trans K9 (fun _ h=>h) (fun i h=>by simp at h;subst h;simp)
  refine ap<|aI<|fo<|bF rfl ‹_› rfl ‹_›<|ai rfl<|ai rfl<|ai rfl<|af<|dO<|ac<|aD ‹_› ?_
  refine bj (CtP.imp (f6 (J:=J) W Y hhe9 hdu9 .n) (fun r σ10 qq6=>?_) (fun _ _ q=>q)) rfl (by decide)
  (refine bD qq6 fun s1 s2=>?_;clear qq6)
  subst s1
  exact⟨rfl,_,J,_,hh9.keep s2,g8,rfl,rfl,oL,Nat.le_succ _,Nat.le_refl _,hK9.keep s2⟩
 ·(refine bD qq4 fun zz14 K8=>?_;clear qq4;refine aF zz14 fun tw r1 r2=>?_;clear zz14)
  rw[g.pc] at r1
  refine⟨tw,_,r1,?_⟩
  have hw':tw∈bc L a w w:=by
   rcases r2 with⟨rfl,q⟩ | ⟨rfl,_,q⟩
   ·exact gg q
   ·exact e9 fun z=>q ((g.inMem hh.M.len a w).mpr z)
  replace hh:=hh.keep K8
  replace hdu:=K8 _ _ hdu
  have hl0:((bc L a w w).map AV.str).length≠([]:List AV).length:=by
   cases hq:bc L a w w with
   | nil=>rw[hq] at hw';cases hw'
   | cons y ys=>simp
  replace hK:=hK.keep K8
  refine fP rfl<|ay rfl<|aa rfl<|aP<|ac<|aL rfl ?_
  refine gG rfl (by(apply ad;apply ad;(with_reducible assumption))) (by(apply aj;simp only[lxS,lxA,lxC,lxN,lxY,lxZ,Nat.reduceAdd];simp only[bS,bT,Int.reduceToNat,lxg,lxh])) hl0 ?_
  (refine aJ<|au rfl<|bH ?_;apply aK;(simp only[bK,aE,bS,bT,cK,lxa,bV,bU,lxA,lxM,lxS,lxC,lxN,lxY,lxZ,Nat.reduceAdd,put,aN,String.reduceEq,reduceIte,List.set_set];(with_reducible rfl));dsimp only[bS,bT,cK,bV,bU];refine fo<|bF rfl ‹_› rfl ‹_›<|ai rfl<|ai rfl<|ai rfl<|af<|dO<|ac<|aD ‹_› ?_)
  have hh2:=hh.app (l:=[AO.list [AV.str tw,AV.int L.pc],AO.list []])
  refine bj (CtP.imp (fg (w:=tw) W Y hh2.A (aj rfl rfl) (ad hdu) hw' (by simp)) (fun r σ9 qq7=>?_) (fun _ _ q=>q)) rfl (by decide)
  (refine bD qq7 fun s1 s2=>?_;clear qq7)
  subst s1
  exact⟨rfl,S,J,L,hh2.keep s2,g,rfl,rfl,rfl,Nat.le_succ _,Nat.le_refl _,hK.app.keep s2⟩
end
section
variable {G:Gd} {D:Ad} {Q:LAd} {gt bt:List (Str×AV)} {A:Around} {F:Fx} {σ σ' σ₁ σ₂:List AO} {C:Cx} {lv:List (Str×AV)} {I:MI} {S S':MSt} {J J':LI} {L L':LSt} {We N k k' n:Nat} {ns:List Int}
def Ce (σ:List AO) (n:Nat) (cv:List (Option AV)):Prop:=∀ (i:Nat) v,cv[i]? = some v→σ[n+i]? = some (.cell v)
theorem Ce.new:Ce (σ++cv.map .cell) σ.length cv:=fun i v h=>cE rfl (by rw[List.getElem?_map,h];rfl)
theorem Ce.app (h:Ce σ n cv):Ce (σ++l) n cv:=fun i v e=>ad (h i v e)
theorem Ce.keep (h:Ce σ n cv) (K:Keep σ σ'):Ce σ' n cv:=fun i v e=>K _ _ (h i v e)
theorem Ce.kept (h:Ce σ n cv) (K:KeptBut is σ σ') (hi:∀i∈is,i < n):Ce σ' n cv:=fun i v e=>K _ _ (fun q=>absurd (hi _ q) (Nat.not_lt.mpr (Nat.le_add_right _ _))) (h i v e)
theorem Ce.set (h:Ce σ n cv) (hj:cv[j]? = some w):Ce (σ.set (n+j) (.cell a)) n (cv.set j a):=fun i v e=>by
 by_cases q:i=j
 ·subst q
  rw[List.getElem?_set_self (List.getElem?_eq_some_iff.mp hj).1] at e
  cases e
  exact aU (h _ _ hj)
 ·rw[List.getElem?_set_ne (Ne.symm q)] at e
  exact ah (by lia) (h i v e)
theorem Hq.old (h:Hq G D Q σ We N I S J L ns k):∀i∈fQ We I J,i < σ.length:=fun i hi=>by
 have q1:=am h.A.d
 have q2:=am h.A.mm
 have q3:=am h.A.rr
 have q4:=am h.A.oo
 have q6:=h.H.lt
 (refine aF (h.tabs 6 (by decide)) fun ts h1 _=>?_)
 have q7:=am h1
 refine Nat.lt_of_not_le fun q=>?_
 have q8:=h.M.newOff q
 simp only[fQ,lxm,List.mem_append,LI.all,lxn,or_false] at hi
 rcases hi with hi | (((hi | hi | hi | hi | hi | hi | hi) | hi | hi | hi | hi) | hi)
 all_goals first | lia | (exact q8 (by simpa [MI.all] using hi))
theorem up {is:List Nat} (hlt:∀i∈fQ We I J,i < n) (hs:∀i∈is,i∈fQ We I J) (hj:n≤j):j ∉ is:=fun q=>absurd (hlt _ (hs _ q)) (Nat.not_lt.mpr hj)
theorem pP {is:List Nat} (hlt:∀i∈fQ We I J,i < n) (hs:∀i∈is,i∈fQ We I J):∀i∈is,i < n:=fun i hi=>hlt i (hs i hi)
theorem mL (h:x∈bc L a w m):((bc L a w m).map AV.str).length≠([]:List AV).length:=by
 cases hq:bc L a w m with
 | nil=>rw[hq] at h;cases h
 | cons y ys=>simp
theorem Ag.load {w:Nat} (g:Ag S L):By.le (cut S.mem (some (a - S.base)) (some (a - S.base+(w:Int))))=ow (cut L.mem (some (a - L.base)) (some (a - L.base+(w:Int)))):=by
 rw[g.mem,g.base]
 unfold cc
 rw[kq]
 exact rj (rn g.mr)
theorem Ag.row (g:Ag S L):cut S.mem (some (a - S.base)) (some (a - S.base+m))=cc (cut L.mem (some (a - L.base)) (some (a - L.base+m))):=by
 rw[g.mem,g.base]
 unfold cc
 rw[kq]
theorem DJ:∀i∈[I.m],i∈I.all:=fun i h=>by simp at h;subst h;simp
theorem KeptBut.wider (h:KeptBut is σ σ') (e:∀i∈is,i∈js):KeptBut js σ σ':=fun i o hi eo=>h i o (fun q=>hi (e i q)) eo
theorem Ag.mlen (g:Ag S L) (hl:(S.mem.length:Int)=S.size):L.mem.length≤1000:=by
 have h1:=g.sz
 have e:S.mem.length=L.mem.length:=by rw[g.mem,bN]
 lia
theorem Ce.zero (h:Ce σ n cv) (e:cv[0]? = some v):σ[n]? = some (.cell v):=h 0 v e
end
section
set_option maxHeartbeats 8000000
variable {G:Gd} {D:Ad} {Q:LAd} {gt bt:List (Str×AV)} {σ:List AO} {C:Cx} {lv:List (Str×AV)} {I:MI} {S:MSt} {J:LI} {L:LSt} {We N k:Nat} {ns:List Int}
noncomputable abbrev yG:List Str:=["well", "state", "due", "start", "answer"]
noncomputable abbrev mD:List Str:=["machine", "address", "width"]
noncomputable abbrev yH:List Str:=["_law_where", "_law_draw", "_law_faults", "_law_weighed", "_law_agrees", "_law_told"]
noncomputable def uD:List Stmt:=(dG (iJ 9 "_law_loaded" .none 0)).drop 4
noncomputable abbrev CG (pm:Value) (cd:Addr) (n:Nat):Cx:=fM (iJ 9 "_law_loaded" pm cd) yG mD yH n 9
theorem j4 {a st:Int} (W:Wd G D gt bt) (Lg:Gl gt bt D) (Y:Law G Q gt) (g:Ag S L) (hw:W124 w) (hh:Hq G D Q σ We N I S J L ns kk) (hK:KeptBut (fQ We I J) σ0 σ) (ce:Ce σ n [some (.dyn I.m),some (.int a),some (.int (w:Int))]) (old:∀i∈fQ We I J,i < n)
  (hdu:σ[du]? = some (.list ((bc L a w w).map .str))) (ofd:n≤du) (hau:AvE an an true) (hok:a % w=0∧inMem S a w→an = .int (ow (cut L.mem (some (a - L.base)) (some (a - L.base+(w:Int)))))) :
  eQ G (CG pm (Q.cd 1) n) [("well",.dyn We),("state",.dyn J.d),("due",.dyn du),("start",.int st),("answer",an)] σ uD (fun f _ σ'=>DeedOk G D Q σ0 We N I J L ns kk (dS f) σ') (fun _ _ _=>False):=by
 (refine bC (Y.fD 6 _ rfl) fun pm6 cd6 D6=>?_)
 (refine bC (Y.fD 7 _ rfl) fun pm7 cd7 D7=>?_)
 have B:=W.B
 have g6:=Y.gN 6 _ rfl
 have g7:=Y.gN 7 _ rfl
 (refine aF (Y.glob) fun mg gl1 gl2=>?_)
 have lm:(bi mD n).lookup (Str.ofString "machine")=some n:=bR 0 rfl (by decide +kernel)
 have hnu:an ≠ .unk:=by rintro rfl;cases hau
 have hwl:=hw.le
 have hcm:=ce.zero rfl
 have hca:=ce 1 _ rfl
 have hcw:=ce 2 _ rfl
 rw[show uD=[_] from rfl]
 refine fo<|bF rfl ‹_› rfl ‹_›<|af<|bP rfl ‹_› rfl ‹_›<|af ?_
 refine dw (T:=1) (cl:=[("width",n+2),("machine",n),("address",n+1)]) (hh.tabs 1 (by decide)) (fun _=>rfl) (fun env f h=>by unfold closureFor cellOf;rw[h];rfl) (fun p hp=>?_) gl1 (Y.tabP 1 (by decide)) rfl (Y.hd 1 (by decide)) (gl2 1 (by decide)) (fun i k' σ8 q1 q2 q3 q4=>?_)
 ·have z1:=am hcm
  have z2:=am hca
  have z4:=am hcw
  simp only[lxm,lxn,or_false] at hp
  rcases hp with rfl | rfl | rfl
  ·exact z4
  ·exact z1
  ·exact z2
 clear hcm hca hcw
 replace hdu:=q4 _ _ (up old (e7 (by decide)) ofd) hdu
 replace ce:=ce.kept q4 (pP old (e7 (by decide)))
 replace hh:=hh.made (by decide) q4 q3
 replace hK:=hK.trans q4 (fun _ h=>h) (e7 (by decide))
 refine ac<|aD ‹_› ?_
 have hcm:=ce.zero rfl
 have hca:=ce 1 _ rfl
 have hcw:=ce 2 _ rfl
 have hm:=hh.M.m
 refine jV (fA (k:=8) W Lg Y q1 (by decide) (fG (n:=7) (cs:=["address", "machine", "width"]) (gs:=[]) q1 q2 Y.lim ⟨rfl,rfl,rfl,by decide +kernel,by decide +kernel,by decide +kernel⟩ (fun _ _ _ _=>rfl) ?_)) rfl (by decide)
 (refine bq ?_;apply aQ;exact rfl;exact rfl;assumption;apply wm;assumption;assumption;exact rfl;refine af ?_;apply aQ;exact rfl;exact rfl;assumption;refine af ?_;apply aQ;exact rfl;exact rfl;assumption;apply ac;refine⟨ok fun _=>by(apply di;(assumption);(exact rfl)),?_⟩;dsimp only[bU,bV])
 refine bj (CtP.imp (rg (n:=(w:Int)) (a:=a) W Lg.exc Lg.int Lg.trap hm (by simp only[put,aN,List.lookup_cons,bG,String.reduceBEq,String.reduceEq,reduceIte,List.lookup_nil]) (by simp only[put,aN,List.lookup_cons,bG,String.reduceBEq,String.reduceEq,reduceIte,List.lookup_nil]) rfl rfl rfl rfl hh.M.me (by have:=hh.M.bM;lia) hh.M.len (Int.lt_of_lt_of_le (by decide) (Int.ofNat_le.mpr hwl.1)) (Int.le_trans (Int.ofNat_le.mpr hwl.2) (by decide))) (fun r σ9 qq1=>?_) (fun i σ9 qq0=>?_)) rfl (by decide)
 ·(refine dA qq1 fun q1 q2 q3=>?_;clear qq1)
  subst q2
  refine⟨by simp,?_⟩
  have hin:=(g.inMem hh.M.len a w).mp q1.2
  have e:=hok ⟨q1.1,q1.2⟩
  subst e
  rw[g.load]
  replace hdu:=q3 _ _ hdu
  rw[ey q1.1 hin] at hdu
  refine ai rfl<|ai rfl<|ai rfl<|ac<|aD ‹_› ?_
  refine bj (CtP.imp (f6 (J:=J) W Y (aj rfl rfl) (ad hdu) hau) (fun r σ10 qq2=>?_) (fun _ _ q=>q)) rfl (by decide)
  (refine bD qq2 fun s1 s2=>?_;clear qq2)
  subst s1
  exact⟨rfl,S,J,L,(hh.keep q3).app.keep s2,g,rfl,rfl,rfl,Nat.le_succ _,Nat.le_refl _,(hK.keep q3).app.keep s2⟩
 ·(refine bD qq0 fun zz2 K9=>?_;clear qq0;refine aF zz2 fun tw r1 r2=>?_;clear zz2)
  rw[g.pc] at r1
  refine⟨tw,_,r1,?_⟩
  have hw':tw∈bc L a w w:=by
   rcases r2 with⟨rfl,q⟩ | ⟨rfl,_,q⟩
   ·exact gg q
   ·exact e9 fun z=>q ((g.inMem hh.M.len a w).mpr z)
  replace hh:=(hh.keep K9).app (l:=[AO.list [AV.str tw,AV.int L.pc]])
  replace hdu:=K9 _ _ hdu
  refine ai rfl<|ai rfl<|af<|iA rfl rfl ‹_› (by decide)<|ac<|aD ‹_› ?_
  refine bj (CtP.imp (fg (w:=tw) W Y hh.A (aj rfl rfl) (ad hdu) hw' hnu) (fun r σ10 qq3=>?_) (fun _ _ q=>q)) rfl (by decide)
  (refine bD qq3 fun s1 s2=>?_;clear qq3)
  subst s1
  exact⟨rfl,S,J,L,hh.keep s2,g,rfl,rfl,rfl,Nat.le_succ _,Nat.le_refl _,(hK.keep K9).app.keep s2⟩
theorem sj (W:Wd G D gt bt) (Lg:Gl gt bt D) (Y:Law G Q gt) (h:Hq G D Q σ We N I S J L ns k) (g:Ag S L) (hd:L.done=false) (hk:k < 700) :
  CtP G 10 σ (.base (Q.fn 9)) [.dyn We,.dyn I.m,.dyn J.d] (DeedOk G D Q σ We N I J L ns (k+3)) (fun _ _=>False):=by
 (refine b8 (Y.lD 1 _ _ rfl) fun pm DD=>?_)
 (refine bC (Y.fD 1 _ rfl) fun pm1 cd1 D1=>?_)
 (refine bC (Y.fD 0 _ rfl) fun pm0 cd0 D0=>?_)
 (refine bC (Y.fD 2 _ rfl) fun pm2 cd2 D2=>?_)
 (refine bC (Y.fD 3 _ rfl) fun pm3 cd3 D3=>?_)
 (refine bC (Y.fD 6 _ rfl) fun pm6 cd6 D6=>?_)
 (refine bC (Y.fD 7 _ rfl) fun pm7 cd7 D7=>?_)
 have B:=W.B
 have g0:=Y.gN 0 _ rfl
 have g1:=Y.gN 1 _ rfl
 have g2:=Y.gN 2 _ rfl
 have g3:=Y.gN 3 _ rfl
 have g6:=Y.gN 6 _ rfl
 have g7:=Y.gN 7 _ rfl
 (refine aF (Y.glob) fun mg gl1 gl2=>?_)
 have hml:L.mem.length≤1000000:=by have:=h.M.bM;rw[g.mem,bN] at this;exact this
 refine ic ["well", "machine", "state"] yG mD yH ["due", "start", "answer"] 9 (cvs:=[some (.dyn I.m),none,none]) (lv:=[("well",.dyn We),("state",.dyn J.d),("due",.unk),("start",.unk),("answer",.unk)]) DD (by kernel_rfl) (fun _=>rfl) rfl (fW fun _ _ _=>rfl) rfl (by
  with_unfolding_all rfl) (by with_unfolding_all rfl) ?_
 have lm:(bi mD σ.length).lookup (Str.ofString "machine")=some σ.length:=bR 0 rfl (by decide +kernel)
 have la:(bi mD σ.length).lookup (Str.ofString "address")=some (σ.length+1):=bR 1 rfl (by decide +kernel)
 have lw:(bi mD σ.length).lookup (Str.ofString "width")=some (σ.length+2):=bR 2 rfl (by decide +kernel)
 have ce:Ce (σ++[some (AV.dyn I.m),none,none].map AO.cell) σ.length [some (.dyn I.m),none,none]:=Ce.new
 have hK:KeptBut (fQ We I J) σ (σ++[some (AV.dyn I.m),none,none].map AO.cell) := .app (.refl _)
 have hh:=h.app (l:=[some (AV.dyn I.m),none,none].map AO.cell)
 have old:=h.old
 generalize σ++[some (AV.dyn I.m),none,none].map AO.cell=σ0 at ce hK hh
 generalize hn:σ.length=n at lm la lw ce old
 refine aW (ej "address" _ (.head _) rfl (by exact rfl) ?_)
 refine b9<|af<|bP rfl ‹_› rfl ‹_›<|ai rfl<|ai rfl<|ac<|aD ‹_› ?_
 refine bX (kB W Lg Y hh.A hh.H (q1 1 700 1 800 hk rfl) hml) rfl rfl fun r σ1 qq4=>?_
 (refine fX qq4 fun a r1 r2 r3=>?_;clear qq4)
 subst r1
 replace hh:=hh.drawn r3 r2
 replace hK:=hK.trans r3 (fun _ h=>h) dp
 replace ce:=ce.kept r3 (pP old dp)
 clear r2 r3
 refine af<|bg<|aP<|az<|az<|az<|az<|ac<|aL rfl<|bP rfl ‹_› rfl ‹_›<|ai rfl<|az<|ac<|aD ‹_› ?_
 refine bX (cR (m:=4) W Lg Y (hh.app (l:=[AO.list [AV.int 1,AV.int 2,AV.int 4,AV.int 4]])).H (q1 1 700 3 900 hk rfl) (by decide)) rfl rfl fun r σ2 qq5=>?_
 (refine bW qq5 fun v r1 r2 r3 r4 r5=>?_;clear qq5)
 subst r1
 have hls:=r4 _ _ (dy (by have:=hh.H.lt;exact Nat.ne_of_gt this)) (aj (l:=σ1) (m:=[AO.list [AV.int 1,AV.int 2,AV.int 4,AV.int 4]]) rfl rfl)
 replace hh:=hh.app.drawn r4 r3
 replace hK:=hK.trans r4.less (fun _ h=>h) dp
 replace ce:=ce.app.kept r4 (pP old dp)
 clear r3 r4 r5
 obtain⟨w,hw,hx⟩:∃w:Nat,W124 w∧([AV.int 1,AV.int 2,AV.int 4,AV.int 4])[v.toNat]? = some (AV.int (w:Int)):=by
  have:v=0∨v=1∨v=2∨v=3:=v4 r2
  rcases this with rfl | rfl | rfl | rfl
  ·exact⟨1,.inl rfl,rfl⟩
  ·exact⟨2,.inr (.inl rfl),rfl⟩
  ·exact⟨4,.inr (.inr rfl),rfl⟩
  ·exact⟨4,.inr (.inr rfl),rfl⟩
 refine bu hls r2.1 (Int.lt_of_lt_of_le r2.2 (by decide)) hx (by intro _ _;with_unfolding_all rfl) ?_
 clear hls hx r2
 have hca:=ce 1 _ rfl
 have hcw:=ce 2 _ rfl
 (refine ac<|And.intro (bZ (by(simp only[lxC,lxN,lxA,lxM,lxS,List.length_replicate];decide)))<|ig rfl (aj rfl rfl) rfl (fun _=>rfl) (fun _=>rfl)<|bQ<|de rfl rfl ‹_› (ad ‹_›)<|bQ ?_;apply de;exact rfl;exact rfl;assumption;(apply ah;exact eW rfl;apply ad;assumption);refine dP<|ap<|b5 rfl<|bF rfl ‹_› rfl ‹_›<|ai rfl<|af ?_;apply aQ;exact rfl;assumption;(apply ah;exact eW rfl;apply aU;apply ad;assumption);refine af ?_;apply aQ;exact rfl;assumption;(apply aU;apply ah;exact eW rfl;apply ad;assumption);refine af ?_;apply aQ;exact rfl;assumption;(apply aU;apply ah;exact eW rfl;apply ad;assumption);refine ac<|aD ‹_› ?_)
 replace hh:=(hh.app (l:=[AO.tuple [AV.int a,AV.int (w:Int)]])).cell (a:=some (.int a)) (ad hca)
 replace hh:=hh.cell (a:=some (.int (w:Int))) (ah (Nat.ne_of_lt (Nat.le_refl _)) (ad hcw))
 replace hK:=((hK.app (l:=[AO.tuple [AV.int a,AV.int (w:Int)]])).setNew (j:=n+1) (a := .cell (some (.int a))) (q1 0 0 0 1 (Nat.le_of_eq hn) rfl)).setNew (j:=n+2) (a := .cell (some (.int (w:Int)))) (q1 0 0 0 2 (Nat.le_of_eq hn) rfl)
 replace ce:=((ce.app (l:=[AO.tuple [AV.int a,AV.int (w:Int)]])).set (j:=1) (a:=some (.int a)) rfl).set (j:=2) (a:=some (.int (w:Int))) rfl
 clear hca hcw
 generalize ((σ2++[AO.tuple [AV.int a,AV.int (w:Int)]]).set (n+1) (AO.cell (some (AV.int a)))).set (n+2) (AO.cell (some (AV.int (w:Int))))=σ3 at hh hK ce
 have hcm:=ce.zero rfl
 have hca:=ce 1 _ rfl
 have hcw:=ce 2 _ rfl
 have hwl:=hw.le
 refine cp (ix (a:=a) (w:=(w:Int)) (m:=(w:Int)) W Lg Y hh.A (Int.lt_of_lt_of_le (by decide) (Int.ofNat_le.mpr hwl.1)) hml) rfl rfl fun r σ6 qq6=>?_
 (refine bD qq6 fun r1 r2=>?_;clear qq6)
 subst r1 r2
 have hdu:(σ3++[AO.list ((bc L a w w).map AV.str)])[σ3.length]? = some (.list ((bc L a w w).map .str)):=aj rfl rfl
 have ofd:n≤σ3.length:=by have:=am hcm;exact q1 1 0 0 0 this rfl
 replace hh:=hh.app (l:=[AO.list ((bc L a w w).map AV.str)])
 replace hK:=hK.app (l:=[AO.list ((bc L a w w).map AV.str)])
 replace ce:=ce.app (l:=[AO.list ((bc L a w w).map AV.str)])
 clear hcm hca hcw
 generalize σ3.length=du at hdu ofd
 generalize σ3++[AO.list ((bc L a w w).map AV.str)]=σ6 at hh hK ce hdu
 have hca:=ce 1 _ rfl
 have hcw:=ce 2 _ rfl
 have hd6:=hh.A.d
 have hm6:=hh.A.mm
 have iM:=g.inMem hh.M.len a w
 have hl1:=g.mlen hh.M.len
 by_cases okh:a % w=0∧inMem S a w
 ·have hin:=iM.mp okh.2
  have hf:bc L a w w=[]:=ey okh.1 hin
  rw[hf] at hdu
  refine eN rfl<|aA rfl<|aG<|aQ rfl ‹_› ‹_›<|bd rfl ‹_› cO<|o2 (fun _=>cC)<|fP rfl<|aA rfl<|eM<|aY<|aa rfl<|aP<|ac<|aL rfl ?_
  refine gb (r:=true) rfl (by(apply ad;assumption)) (by exact aj rfl rfl) (by exact .nil) ?_
  (refine aJ<|aR rfl<|bP rfl ‹_› rfl ‹_›<|af<|bg<|bd rfl (ad ‹_›) dz<|fq<|aa rfl ?_;refine⟨_,rfl,?_⟩;refine aX rfl<|aQ rfl ‹_› (ad ‹_›)<|o2 (fun _=>bh) ?_;refine⟨_,rfl,?_⟩;apply iB;(apply ad;apply ad;assumption);exact aj rfl rfl;exact q1 0 1000 0 16777216 hl1 rfl;(intro _ _);with_unfolding_all rfl;refine ac<|aD ‹_› ?_)
  refine jV (CtP.imp (pR (ms:=cut L.mem (some (a - L.base)) (some (a - L.base+(w:Int)))) W Y (by(apply aj;simp only[lxS,lxA,lxC,lxN,lxY,lxZ,Nat.reduceAdd];simp only[bS,bT,Int.reduceToNat,lxg,lxh])) (Nat.le_trans (dM ..) hl1)) (fun r σ7 ⟨r1,K7⟩=>?_) (fun i σ' q=>q.elim)) rfl (by decide)
  subst r1
  replace hh:=(hh.app.app.app).keep K7
  replace hK:=hK.app.app.app.keep K7
  replace ce:=ce.app.app.app.keep K7
  have hdu2:σ7[du]? = some (.list ((bc L a w w).map .str)):=by rw[hf];exact K7 _ _ (ad (ad (ad hdu)))
  have hca:=ce 1 _ rfl
  have hcw:=ce 2 _ rfl
  clear K7 hd6 hm6
  (refine cV rfl ?_)
  exact j4 W Lg Y g hw hh hK ce old hdu2 ofd (by first | exact .n | exact .ri | exact .rb) (fun _=>rfl)
 ·have hne:∃x,x∈bc L a w w:=by
   by_cases c:a % w=0
   ·exact⟨_,e9 fun z=>okh ⟨c,iM.mpr z⟩⟩
   ·exact⟨_,gg c⟩
  have hl0:=mL hne.choose_spec
  refine eN rfl<|aA rfl<|aG<|aQ rfl ‹_› ‹_›<|bd rfl ‹_› cO<|o2 (fun _=>cC)<|fP rfl<|aA rfl<|eM<|aY<|aa rfl<|aP<|ac<|aL rfl ?_
  refine gG rfl (by exact ad ‹_›) (by(apply aj;simp only[lxS,lxA,lxC,lxN,lxY,lxZ,Nat.reduceAdd];simp only[bS,bT,Int.reduceToNat,lxg,lxh])) hl0 ?_
  refine aJ<|au rfl<|bf<|cV rfl ?_
  exact j4 W Lg Y g hw hh.app hK.app ce.app old (ad hdu) ofd (by first | exact .n | exact .ri | exact .rb) (fun z=>absurd z okh)
end
section
set_option maxHeartbeats 8000000
variable {G:Gd} {D:Ad} {Q:LAd} {gt bt:List (Str×AV)} {σ:List AO} {C:Cx} {lv:List (Str×AV)} {I:MI} {S:MSt} {J:LI} {L:LSt} {We N k:Nat} {ns:List Int}
noncomputable abbrev yy:List Str:=["well", "state", "due", "start", "answer"]
noncomputable abbrev mv:List Str:=["machine", "address", "many"]
noncomputable abbrev yz:List Str:=["_law_where", "_law_draw", "_law_faults", "bytes", "_law_agrees", "_law_told"]
noncomputable def um:List Stmt:=(dG (iJ 10 "_law_row_read" .none 0)).drop 4
noncomputable abbrev Cn (pm:Value) (cd:Addr) (n:Nat):Cx:=fM (iJ 10 "_law_row_read" pm cd) yy mv yz n 9
theorem oN {a st m:Int} (W:Wd G D gt bt) (Lg:Gl gt bt D) (Y:Law G Q gt) (g:Ag S L) (hm0:0≤m) (hh:Hq G D Q σ We N I S J L ns kk) (hK:KeptBut (fQ We I J) σ0 σ) (ce:Ce σ n [some (.dyn I.m),some (.int a),some (.int m)]) (old:∀i∈fQ We I J,i < n)
  (hdu:σ[du]? = some (.list ((bc L a 1 m).map .str))) (ofd:n≤du) (hau:AvE an an true) (hok:inMem S a m→an = .bytes (cc (cut L.mem (some (a - L.base)) (some (a - L.base+m))))) :
  eQ G (Cn pm (Q.cd 2) n) [("well",.dyn We),("state",.dyn J.d),("due",.dyn du),("start",.int st),("answer",an)] σ um (fun f _ σ'=>DeedOk G D Q σ0 We N I J L ns kk (dS f) σ') (fun _ _ _=>False):=by
 (refine bC (Y.fD 6 _ rfl) fun pm6 cd6 D6=>?_)
 (refine bC (Y.fD 7 _ rfl) fun pm7 cd7 D7=>?_)
 have B:=W.B
 have g6:=Y.gN 6 _ rfl
 have g7:=Y.gN 7 _ rfl
 (refine aF (Y.glob) fun mg gl1 gl2=>?_)
 have lm:(bi mv n).lookup (Str.ofString "machine")=some n:=bR 0 rfl (by decide +kernel)
 have hnu:an ≠ .unk:=by rintro rfl;cases hau
 have hcm:=ce.zero rfl
 have hca:=ce 1 _ rfl
 have hcw:=ce 2 _ rfl
 rw[show um=[_] from rfl]
 refine fo<|bF rfl ‹_› rfl ‹_›<|af<|bP rfl ‹_› rfl ‹_›<|af ?_
 refine dw (T:=2) (cl:=[("many",n+2),("machine",n),("address",n+1)]) (hh.tabs 2 (by decide)) (fun _=>rfl) (fun env f h=>by unfold closureFor cellOf;rw[h];rfl) (fun p hp=>?_) gl1 (Y.tabP 2 (by decide)) rfl (Y.hd 2 (by decide)) (gl2 2 (by decide)) (fun i k' σ8 q1 q2 q3 q4=>?_)
 ·have z1:=am hcm
  have z2:=am hca
  have z4:=am hcw
  simp only[lxm,lxn,or_false] at hp
  rcases hp with rfl | rfl | rfl
  ·exact z4
  ·exact z1
  ·exact z2
 clear hcm hca hcw
 replace hdu:=q4 _ _ (up old (e7 (by decide)) ofd) hdu
 replace ce:=ce.kept q4 (pP old (e7 (by decide)))
 replace hh:=hh.made (by decide) q4 q3
 replace hK:=hK.trans q4 (fun _ h=>h) (e7 (by decide))
 refine ac<|aD ‹_› ?_
 have hcm:=ce.zero rfl
 have hca:=ce 1 _ rfl
 have hcw:=ce 2 _ rfl
 have hm:=hh.M.m
 refine jV (fA (k:=8) W Lg Y q1 (by decide) (fG (n:=7) (cs:=["address", "machine", "many"]) (gs:=[]) q1 q2 Y.lim ⟨rfl,rfl,rfl,by decide +kernel,by decide +kernel,by decide +kernel⟩ (fun _ _ _ _=>rfl) ?_)) rfl (by decide)
 (refine bq ?_;apply aQ;exact rfl;exact rfl;assumption;apply zS;assumption;assumption;exact rfl;refine af ?_;apply aQ;exact rfl;exact rfl;assumption;refine af ?_;apply aQ;exact rfl;exact rfl;assumption;apply ac;refine⟨ok fun _=>by(apply di;(assumption);(exact rfl)),?_⟩;dsimp only[bU,bV])
 refine bj (CtP.imp (nq (n:=m) (a:=a) W Lg.exc Lg.bytes Lg.trap hm (by simp only[put,aN,List.lookup_cons,bG,String.reduceBEq,String.reduceEq,reduceIte,List.lookup_nil]) rfl rfl rfl rfl hh.M.me (by have:=hh.M.bM;lia)) (fun r σ9 qq1=>?_) (fun i σ9 qq0=>?_)) rfl (by decide)
 ·(refine dA qq1 fun q1 q2 q3=>?_;clear qq1)
  subst q2
  refine⟨by simp,?_⟩
  have hinm:inMem S a m:=⟨q1.1,q1.2.2⟩
  have hin:=(g.inMem hh.M.len a m).mp hinm
  have e:=hok hinm
  subst e
  rw[g.row]
  replace hdu:=q3 _ _ hdu
  rw[ey (by simp) hin] at hdu
  refine ai rfl<|ai rfl<|ai rfl<|ac<|aD ‹_› ?_
  refine bj (CtP.imp (f6 (J:=J) W Y (aj rfl rfl) (ad hdu) hau) (fun r σ10 qq2=>?_) (fun _ _ q=>q)) rfl (by decide)
  (refine bD qq2 fun s1 s2=>?_;clear qq2)
  subst s1
  exact⟨rfl,S,J,L,(hh.keep q3).app.keep s2,g,rfl,rfl,rfl,Nat.le_succ _,Nat.le_refl _,(hK.keep q3).app.keep s2⟩
 ·(refine dA qq0 fun r2 r1 K9=>?_;clear qq0)
  rw[g.pc] at r1
  refine⟨"memory",_,r1,?_⟩
  have hw':("memory" : Str)∈bc L a 1 m:=e9 fun z=>r2 (by have:=(g.inMem hh.M.len a m).mpr z;exact⟨this.1,hm0,this.2⟩)
  replace hh:=(hh.keep K9).app (l:=[AO.list [AV.str "memory",AV.int L.pc]])
  replace hdu:=K9 _ _ hdu
  refine ai rfl<|ai rfl<|af<|iA rfl rfl ‹_› (by decide)<|ac<|aD ‹_› ?_
  refine bj (CtP.imp (fg (w := "memory") W Y hh.A (aj rfl rfl) (ad hdu) hw' hnu) (fun r σ10 qq3=>?_) (fun _ _ q=>q)) rfl (by decide)
  (refine bD qq3 fun s1 s2=>?_;clear qq3)
  subst s1
  exact⟨rfl,S,J,L,hh.keep s2,g,rfl,rfl,rfl,Nat.le_succ _,Nat.le_refl _,(hK.keep K9).app.keep s2⟩
theorem y2 (W:Wd G D gt bt) (Lg:Gl gt bt D) (Y:Law G Q gt) (h:Hq G D Q σ We N I S J L ns k) (g:Ag S L) (hd:L.done=false) (hk:k < 700) :
  CtP G 10 σ (.base (Q.fn 10)) [.dyn We,.dyn I.m,.dyn J.d] (DeedOk G D Q σ We N I J L ns (k+3)) (fun _ _=>False):=by
 (refine b8 (Y.lD 2 _ _ rfl) fun pm DD=>?_)
 (refine bC (Y.fD 1 _ rfl) fun pm1 cd1 D1=>?_)
 (refine bC (Y.fD 0 _ rfl) fun pm0 cd0 D0=>?_)
 (refine bC (Y.fD 2 _ rfl) fun pm2 cd2 D2=>?_)
 (refine bC (Y.fD 6 _ rfl) fun pm6 cd6 D6=>?_)
 (refine bC (Y.fD 7 _ rfl) fun pm7 cd7 D7=>?_)
 have B:=W.B
 have g0:=Y.gN 0 _ rfl
 have g1:=Y.gN 1 _ rfl
 have g2:=Y.gN 2 _ rfl
 have g3:=Lg.bytes
 have g6:=Y.gN 6 _ rfl
 have g7:=Y.gN 7 _ rfl
 (refine aF (Y.glob) fun mg gl1 gl2=>?_)
 have hml:L.mem.length≤1000000:=by have:=h.M.bM;rw[g.mem,bN] at this;exact this
 refine ic ["well", "machine", "state"] yy mv yz ["due", "start", "answer"] 9 (cvs:=[some (.dyn I.m),none,none]) (lv:=[("well",.dyn We),("state",.dyn J.d),("due",.unk),("start",.unk),("answer",.unk)]) DD (by kernel_rfl) (fun _=>rfl) rfl (fW fun _ _ _=>rfl) rfl (by
  with_unfolding_all rfl) (by with_unfolding_all rfl) ?_
 have lm:(bi mv σ.length).lookup (Str.ofString "machine")=some σ.length:=bR 0 rfl (by decide +kernel)
 have la:(bi mv σ.length).lookup (Str.ofString "address")=some (σ.length+1):=bR 1 rfl (by decide +kernel)
 have lw:(bi mv σ.length).lookup (Str.ofString "many")=some (σ.length+2):=bR 2 rfl (by decide +kernel)
 have ce:Ce (σ++[some (AV.dyn I.m),none,none].map AO.cell) σ.length [some (.dyn I.m),none,none]:=Ce.new
 have hK:KeptBut (fQ We I J) σ (σ++[some (AV.dyn I.m),none,none].map AO.cell) := .app (.refl _)
 have hh:=h.app (l:=[some (AV.dyn I.m),none,none].map AO.cell)
 have old:=h.old
 generalize σ++[some (AV.dyn I.m),none,none].map AO.cell=σ0 at ce hK hh
 generalize hn:σ.length=n at lm la lw ce old
 refine aW (ej "address" _ (.head _) rfl (by exact rfl) ?_)
 refine b9<|af<|bP rfl ‹_› rfl ‹_›<|ai rfl<|ai rfl<|ac<|aD ‹_› ?_
 refine bX (kB W Lg Y hh.A hh.H (q1 1 700 1 800 hk rfl) hml) rfl rfl fun r σ1 qq4=>?_
 (refine fX qq4 fun a r1 r2 r3=>?_;clear qq4)
 subst r1
 replace hh:=hh.drawn r3 r2
 replace hK:=hK.trans r3 (fun _ h=>h) dp
 replace ce:=ce.kept r3 (pP old dp)
 clear r2 r3
 refine af<|bP rfl ‹_› rfl ‹_›<|ai rfl<|az<|ac<|aD ‹_› ?_
 refine bX (cR (m:=9) W Lg Y hh.H (q1 1 700 3 900 hk rfl) (by decide)) rfl rfl fun r σ2 qq5=>?_
 (refine bW qq5 fun m r1 r2 r3 r4 r5=>?_;clear qq5)
 subst r1
 replace hh:=hh.drawn r4 r3
 replace hK:=hK.trans r4 (fun _ h=>h) dp
 replace ce:=ce.kept r4 (pP old dp)
 clear r3 r4 r5
 have hca:=ce 1 _ rfl
 have hcw:=ce 2 _ rfl
 (refine ac<|And.intro (bZ (by(simp only[lxC,lxN,lxA,lxM,lxS,List.length_replicate];decide))) ?_;apply ig;exact rfl;(apply aj;simp only[lxS,lxA,lxC,lxN,lxY,lxZ,Nat.reduceAdd];simp only[bS,bT,Int.reduceToNat,lxg,lxh];rfl);exact rfl;(intro _);rfl;(intro _);rfl;refine bQ<|de rfl rfl ‹_› (ad ‹_›)<|bQ ?_;apply de;exact rfl;exact rfl;assumption;(apply ah;exact eW rfl;apply ad;assumption);refine dP<|ap<|b5 rfl<|bF rfl ‹_› rfl ‹_›<|ai rfl<|af ?_;apply aQ;exact rfl;assumption;(apply ah;exact eW rfl;apply aU;apply ad;assumption);refine az<|af ?_;apply aQ;exact rfl;assumption;(apply aU;apply ah;exact eW rfl;apply ad;assumption);refine ac<|aD ‹_› ?_)
 replace hh:=(hh.app (l:=[AO.tuple [AV.int a,AV.int m]])).cell (a:=some (.int a)) (ad hca)
 replace hh:=hh.cell (a:=some (.int m)) (ah (Nat.ne_of_lt (Nat.le_refl _)) (ad hcw))
 replace hK:=((hK.app (l:=[AO.tuple [AV.int a,AV.int m]])).setNew (j:=n+1) (a := .cell (some (.int a))) (q1 0 0 0 1 (Nat.le_of_eq hn) rfl)).setNew (j:=n+2) (a := .cell (some (.int m))) (q1 0 0 0 2 (Nat.le_of_eq hn) rfl)
 replace ce:=((ce.app (l:=[AO.tuple [AV.int a,AV.int m]])).set (j:=1) (a:=some (.int a)) rfl).set (j:=2) (a:=some (.int m)) rfl
 clear hca hcw
 generalize ((σ2++[AO.tuple [AV.int a,AV.int m]]).set (n+1) (AO.cell (some (AV.int a)))).set (n+2) (AO.cell (some (AV.int m)))=σ3 at hh hK ce
 have hcm:=ce.zero rfl
 have hca:=ce 1 _ rfl
 have hcw:=ce 2 _ rfl
 refine cp (ix (a:=a) (w:=1) (m:=m) W Lg Y hh.A (by decide) hml) rfl rfl fun r σ6 qq6=>?_
 (refine bD qq6 fun r1 r2=>?_;clear qq6)
 subst r1 r2
 have hdu:(σ3++[AO.list ((bc L a 1 m).map AV.str)])[σ3.length]? = some (.list ((bc L a 1 m).map .str)):=aj rfl rfl
 have ofd:n≤σ3.length:=by have:=am hcm;exact q1 1 0 0 0 this rfl
 replace hh:=hh.app (l:=[AO.list ((bc L a 1 m).map AV.str)])
 replace hK:=hK.app (l:=[AO.list ((bc L a 1 m).map AV.str)])
 replace ce:=ce.app (l:=[AO.list ((bc L a 1 m).map AV.str)])
 clear hcm hca hcw
 generalize σ3.length=du at hdu ofd
 generalize σ3++[AO.list ((bc L a 1 m).map AV.str)]=σ6 at hh hK ce hdu
 have hca:=ce 1 _ rfl
 have hcw:=ce 2 _ rfl
 have hd6:=hh.A.d
 have hm6:=hh.A.mm
 have iM:=g.inMem hh.M.len a m
 have hl1:=g.mlen hh.M.len
 have hcr:=rn (lo:=some (a - L.base)) (hi:=some (a - L.base+m)) g.mr
 have hcl:(cut L.mem (some (a - L.base)) (some (a - L.base+m))).length≤1000:=Nat.le_trans (dM ..) hl1
 by_cases okh:inMem S a m
 ·have hin:=iM.mp okh
  have hf:bc L a 1 m=[]:=ey (by simp) hin
  rw[hf] at hdu
  refine eN rfl<|aA rfl<|aG<|aQ rfl ‹_› ‹_›<|bd rfl ‹_› cO<|o2 (fun _=>cC)<|fP rfl<|aA rfl<|eM<|aY<|aa rfl<|aP<|ac<|aL rfl ?_
  refine gb (r:=true) rfl (by(apply ad;assumption)) (by(apply aj;simp only[lxS,lxA,lxC,lxN,lxY,lxZ,Nat.reduceAdd];simp only[bS,bT,Int.reduceToNat,lxg,lxh];rfl)) (by exact .nil) ?_
  (refine aJ<|aR rfl<|cb rfl ‹_› rfl ‹_›<|af<|bg<|bd rfl (ad ‹_›) dz<|fq<|aa rfl ?_;refine⟨_,rfl,?_⟩;refine aX rfl<|aQ rfl ‹_› (ad ‹_›)<|o2 (fun _=>bh) ?_;refine⟨_,rfl,?_⟩;apply iB;(apply ad;apply ad;assumption);(apply aj;simp only[lxS,lxA,lxC,lxN,lxY,lxZ,Nat.reduceAdd];simp only[bS,bT,Int.reduceToNat,lxg,lxh];rfl);exact q1 0 1000 0 16777216 hl1 rfl;(intro _ _);with_unfolding_all rfl;refine ac<|aT ?_;apply dg;exact rfl;(apply aj;simp only[lxS,lxA,lxC,lxN,lxY,lxZ,Nat.reduceAdd];simp only[bS,bT,Int.reduceToNat,lxg,lxh];rfl);assumption;exact q1 0 1000 0 16777216 hcl rfl;refine aw rfl ?_;apply aK;(simp only[bK,aE,bS,bT,cK,lxa,bV,bU,lxA,lxM,lxS,lxC,lxN,lxY,lxZ,Nat.reduceAdd,put,aN,String.reduceEq,reduceIte,List.set_set];rfl);dsimp only[bS,bT,cK,bV,bU])
  exact oN W Lg Y g r2.1 hh.app hK.app ce.app old (by rw[hf];exact ad hdu) ofd (by first | exact .n | exact .ri | exact .rb) (fun _=>rfl)
 ·have hl0:=mL (e9 (w:=1) (fun z=>okh (iM.mpr z)))
  refine eN rfl<|aA rfl<|aG<|aQ rfl ‹_› ‹_›<|bd rfl ‹_› cO<|o2 (fun _=>cC)<|fP rfl<|aA rfl<|eM<|aY<|aa rfl<|aP<|ac<|aL rfl ?_
  refine gG rfl (by(apply ad;assumption)) (by(apply aj;simp only[lxS,lxA,lxC,lxN,lxY,lxZ,Nat.reduceAdd];simp only[bS,bT,Int.reduceToNat,lxg,lxh])) hl0 ?_
  refine aJ<|au rfl<|tz<|cV rfl ?_
  exact oN W Lg Y g r2.1 hh.app hK.app ce.app old (ad hdu) ofd (by first | exact .n | exact .ri | exact .rb) (fun z=>absurd z okh)
end
section
set_option maxHeartbeats 8000000
variable {G:Gd} {D:Ad} {Q:LAd} {gt bt:List (Str×AV)} {σ:List AO} {C:Cx} {lv:List (Str×AV)} {I:MI} {S:MSt} {J:LI} {L:LSt} {We N k:Nat} {ns:List Int}
noncomputable abbrev Ck:List Str:=["well", "machine", "state", "number", "value"]
noncomputable abbrev Cm:List Str:=["_law_draw", "_law_all"]
theorem Ag.putReg (g:Ag S L) (hn:0≤n) (hd:L.done=false):Ag { S with regs:=Mine.putReg S.regs n v } { L with regs:=if n > 0 then L.regs.set n.toNat (v % 4294967296) else L.regs }:=by
 have e:Mine.putReg S.regs n v=if n > 0 then L.regs.set n.toNat (v % 4294967296) else L.regs:=by
  unfold Mine.putReg
  rw[g.regs]
  by_cases c:n=0
  ·rw[if_pos c,if_neg (Int.not_lt.mpr (Int.le_of_eq c))]
  ·rw[if_neg c,if_pos (by lia)]
 refine { g with regs:=e,rr:=?_,st:=fun q=>by have:L.done=true:=q;rw[hd] at this;cases this }
 show ∀x∈(if n > 0 then L.regs.set n.toNat (v % 4294967296) else L.regs),_
 by_cases c:n > 0
 ·rw[if_pos c];exact jc g.rr (⟨Int.emod_nonneg _ (by decide),Int.emod_lt_of_pos _ (by decide)⟩)
 ·rw[if_neg c];exact g.rr
theorem rZ (W:Wd G D gt bt) (Lg:Gl gt bt D) (Y:Law G Q gt) (h:Hq G D Q σ We N I S J L ns k) (g:Ag S L) (hd:L.done=false) (hk:k < 700) :
  CtP G 10 σ (.base (Q.fn 11)) [.dyn We,.dyn I.m,.dyn J.d] (DeedOk G D Q σ We N I J L ns (k+2)) (fun _ _=>False):=by
 (refine bC (Y.fD 11 _ rfl) fun pm cd DD=>?_)
 (refine bC (Y.fD 0 _ rfl) fun pm0 cd0 D0=>?_)
 have B:=W.B
 have g0:=Y.gN 0 _ rfl
 have g1:=Y.gAll
 refine ch ["well", "machine", "state"] Ck Cm ["number", "value"] 9 DD (by kernel_rfl) rfl (fW fun _ _ _=>rfl) rfl (by(simp only[lxp,lxq,lxr,lxs,lxt,bV,bU];rfl)) ?_
 have hh:=h
 have hK:KeptBut (fQ We I J) σ σ := .refl _
 refine aW<|dV rfl (by exact rfl) (by exact rfl) rfl (by rw[bG];rfl) rfl rfl rfl<|b9<|af<|bP rfl ‹_› rfl ‹_›<|ai rfl<|az<|ac<|aD ‹_› ?_
 refine bX (cR (m:=32) W Lg Y hh.H (q1 1 700 1 900 hk rfl) (by decide)) rfl rfl fun r σ1 qq0=>?_
 (refine bW qq0 fun n r1 r2 r3 r4 r5=>?_;clear qq0)
 subst r1
 replace hh:=hh.drawn r4 r3
 have hK1:=hK.trans r4 (fun _ h=>h) dp
 clear r3 r4 r5
 refine af<|aG<|bP rfl ‹_› rfl ‹_›<|ai rfl<|az<|ac<|aD ‹_› ?_
 refine bX (cR (m:=17179869184) W Lg Y hh.H (q1 1 700 2 900 hk rfl) (by decide)) rfl rfl fun r σ2 qq1=>?_
 (refine bW qq1 fun v r1 r2' r3 r4 r5=>?_;clear qq1)
 subst r1
 replace hh:=hh.drawn r4 r3
 replace hK1:=hK1.trans r4 (fun _ h=>h) dp
 clear r3 r4 r5
 have hm:=hh.M.m
 have hr:=hh.M.r
 have r32:=hh.M.r32
 (refine i2 (fun _=>cC)<|ac ?_;refine⟨bZ (by(simp only[lxC,lxN,lxA,lxM,lxS,List.length_replicate];decide)),?_⟩;apply Exists.intro;apply Exists.intro;apply Exists.intro;apply And.intro rfl;apply And.intro;exact aj rfl rfl;apply aK;dsimp only[bS,bT,cK,bV,bU];rfl;refine cY rfl<|bq<|aa rfl ?_;apply lJ;assumption;exact ad ‹_›;exact rfl;refine ai rfl<|ai rfl<|ac ?_;refine⟨ok fun _=>by(apply di;(assumption);(exact rfl)),?_⟩;dsimp only[bU,bV])
 have l32:L.regs.length=32:=by rw[← g.regs];exact r32
 have gp:=g.putReg (n:=n) (v:=v - 4294967300) r2.1 hd
 replace hh:=hh.app (l:=[AO.tuple [AV.int n,AV.int (v - 4294967300)]])
 replace hK1:=hK1.app (l:=[AO.tuple [AV.int n,AV.int (v - 4294967300)]])
 replace hm:=ad (l:=[AO.tuple [AV.int n,AV.int (v - 4294967300)]]) hm
 replace hr:=ad (l:=[AO.tuple [AV.int n,AV.int (v - 4294967300)]]) hr
 generalize v - 4294967300=v at gp hh hK1 hm hr
 generalize σ2++[AO.tuple [AV.int n,AV.int v]]=σ3 at hh hK1 hm hr
 refine cp (kG W Lg.mask hm rfl hr r2.1 (by rw[r32];exact r2.2) r32) rfl rfl fun r σ' qq2=>?_
 (refine bD qq2 fun q1 q2=>?_;clear qq2)
 subst q1 q2
 have Kr:KeptBut I.all σ3 (σ3.set I.r (AO.list ((putReg S.regs n v).map AV.int))) := .set (by simp) (.refl _)
 replace hh:=hh.mach Kr (hh.M.setR (y4.trans r32))
 replace hK1:=hK1.trans Kr (fun _ h=>h) hG
 clear Kr hm hr
 generalize σ3.set I.r (AO.list ((putReg S.regs n v).map AV.int))=σ4 at hh hK1
 have hdd:=hh.A.d
 have hrr:=hh.A.rr
 by_cases c:n > 0
 ·rw[if_pos c] at gp
  refine ap<|ay rfl<|aa rfl<|dE (fun _=>fk)<|aR (decide_eq_true ‹_›)<|aA rfl<|aX rfl<|ax ‹_› rfl ‹_›<|o2 (fun _=>cw (by decide))<|ck<|bd rfl ‹_› cm<|aa rfl<|db ‹_› (Int.le_of_lt c) (by lia) (Int.lt_of_lt_of_le r2.2 (by decide))<|ap<|aI<|bE<|et<|aM ?_
  have A':=hh.A.setRegs (m:=L.regs.set n.toNat (v % 4294967296))
  have K':KeptBut J.all σ4 (σ4.set J.rr (AO.list ((L.regs.set n.toNat (v % 4294967296)).map AV.int))) := .set (by simp) (.refl _)
  exact⟨rfl,_,J,_,hh.state K' A' rfl (.inl rfl),gp,rfl,rfl,rfl,Nat.le_succ _,Nat.le_refl _,hK1.trans K' (fun _ h=>h) mG⟩
 ·rw[if_neg c] at gp
  refine ap<|ay rfl<|aa rfl<|dE (fun _=>fk)<|au (decide_eq_false ‹_›)<|aI<|bE<|et<|aM ?_
  exact⟨rfl,_,J,L,hh,gp,rfl,rfl,rfl,Nat.le_succ _,Nat.le_refl _,hK1⟩
end
section
set_option maxHeartbeats 8000000
variable {G:Gd} {D:Ad} {Z:DAd} {Q:LAd} {gt bt:List (Str×AV)} {σ:List AO} {C:Cx} {lv:List (Str×AV)} {I:MI} {S:MSt} {J:LI} {L:LSt} {We N k:Nat} {ns:List Int}
noncomputable abbrev Be:List Str:=["well", "state", "asked", "value", "number", "given", "due", "heard"]
noncomputable abbrev uX:List Str:=["machine"]
noncomputable abbrev Bf:List Str:=["_law_draw", "_law_all", "_law_outer", "_law_told", "_law_agrees"]
noncomputable abbrev zi (pm:Value) (cd:Addr) (n:Nat):Cx:=fM (iJ 12 "_law_called" pm cd) Be uX Bf n 9
noncomputable def ph:Stmt:=(dG (iJ 12 "_law_called" .none 0)).getD 1 kg
noncomputable abbrev zh (We d:Nat) (as va:Int) (nu gi:AV):List (Str×AV):=[("well",.dyn We),("state",.dyn d),("asked",.int as),("value",.int va),("number",nu),("given",gi),("due",.unk),("heard",.unk)]
theorem j9 {K:AFl→List (Str×AV)→List AO→Prop} (W:Wd G D gt bt) (Lg:Gl gt bt D) (hh:Hq G D Q σ We N I S J L ns k) (g:Ag S L) (hd:L.done=false) (hcm:σ[n]? = some (.cell (some (.dyn I.m)))) (old:∀i∈fQ We I J,i < n)
  (hx:xs[j]? = some (.dyn t)) (ht:σ[t]? = some (.tuple [.int m,.int v])) (hR:σ[R]? = some (.list xs)) (hm0:0 < m) (hm1:m < 32) (hv:0≤v∧v < 4294967296) (hnt:n≤t) (hnR:n≤R)
  (next:∀σ',KeptBut (fQ We I J) σ σ'→Hq G D Q σ' We N I { S with regs:=S.regs.set m.toNat v } J { L with regs:=L.regs.set m.toNat v } ns k→Ag { S with regs:=S.regs.set m.toNat v } { L with regs:=L.regs.set m.toNat v } →
   qB G (zi pm cd n) (bk ph).1 (bk ph).2 (fun σ'=>σ'[R]? = some (.list xs)) xs (j+1) (zh We J.d as va (.int m) (.int v)) σ' K) :
  qB G (zi pm cd n) (bk ph).1 (bk ph).2 (fun σ'=>σ'[R]? = some (.list xs)) xs j (zh We J.d as va nu gi) σ K:=by
 have B:=W.B
 have lm:(bi uX n).lookup (Str.ofString "machine")=some n:=bR 0 rfl (by decide +kernel)
 have hm:=hh.M.m
 have hr:=hh.M.r
 have r32:=hh.M.r32
 have l32:L.regs.length=32:=by rw[← g.regs];exact r32
 have e:putReg S.regs m v=S.regs.set m.toNat v:=by unfold putReg;rw[if_neg (Int.ne_of_gt hm0),Int.emod_eq_of_lt hv.1 hv.2]
 rw[show bk ph=(_,_) from rfl] at next ⊢
 dsimp only at next ⊢
 refine eI hx hR ?_
 (apply ig;exact rfl;assumption;exact rfl;(intro _);rfl;(intro _);rfl;refine bQ<|aw rfl<|bQ<|aw rfl<|dP<|cY rfl<|bq ?_;apply aQ;exact rfl;assumption;assumption;apply lJ;assumption;assumption;exact rfl;refine ai rfl<|ai rfl<|ac ?_;refine⟨ok fun _=>by(apply di;(assumption);(exact rfl)),?_⟩;dsimp only[bU,bV])
 refine cp (kG (v:=v) W Lg.mask hm rfl hr (Int.le_of_lt hm0) (by rw[r32];exact hm1) r32) rfl rfl fun r σ' qq0=>?_
 (refine bD qq0 fun q1 q2=>?_;clear qq0)
 subst q1 q2
 rw[e]
 have Kr:KeptBut I.all σ (σ.set I.r (AO.list ((S.regs.set m.toNat v).map AV.int))) := .set (by simp) (.refl _)
 have hh1:=hh.mach Kr (hh.M.setR (regs:=S.regs.set m.toNat v) (by simp[r32]))
 have hK1:=Kr.wider (hG (We:=We) (J:=J))
 clear Kr hm hr
 generalize σ.set I.r (AO.list ((S.regs.set m.toNat v).map AV.int))=σ4 at hh1 hK1
 have hdd:=hh1.A.d
 have hrr:=hh1.A.rr
 (refine ap<|aA rfl<|aa rfl<|ck<|bd rfl ‹_› cm<|aa rfl ?_;apply db;assumption;exact Int.le_of_lt hm0;lia;(with_reducible exact yr (by assumption) (by decide));refine ap<|bH ?_)
 have A':=hh1.A.setRegs (m:=L.regs.set m.toNat v)
 have K':KeptBut J.all σ4 (σ4.set J.rr (AO.list ((L.regs.set m.toNat v).map AV.int))) := .set (by simp) (.refl _)
 exact⟨_,Wk.refl _,next _ (hK1.trans K' (fun _ h=>h) mG) (hh1.state K' A' rfl (.inl rfl)) { g with regs:=by rw[g.regs],rr:=jc g.rr hv,st:=fun q=>by have:L.done=true:=q;rw[hd] at this;cases this }⟩
noncomputable def uW:List Stmt:=(dG (iJ 12 "_law_called" .none 0)).drop 2
theorem j1 (h:dl L=some L') (hd:L.done=false):(L'.inp.length≤L.inp.length)∧(L'.done=true→L'.regs.getD 10 0=L.regs.getD 10 0):=by
 unfold dl at h
 split at h
 ·cases h;simp
 ·split at h
  ·cases h;simp[hd]
  ·split at h
   ·cases h;simp[hd]
   ·cases h
theorem pi (W:Wd G D gt bt) (Lg:Gl gt bt D) (V:Dec G Z gt) (Y:Law G Q gt) (hh:Hq G D Q σ We N I S J L ns kk) (g:Ag S L) (hd:L.done=false) (hob:L.out.length≤900) (hva:L.regs.getD 10 0=va) (hv:0≤va∧va < 4294967296)
  (hK:KeptBut (fQ We I J) σ0 σ) (ce:Ce σ n [some (.dyn I.m)]) (old:∀i∈fQ We I J,i < n) (z1:L.mem=L0.mem) (z2:L.out=L0.out) (z3:L.inp=L0.inp) :
  eQ G (zi pm (Q.cd 3) n) (zh We J.d as va (.int 10) (.int va)) σ uW (fun f _ σ'=>DeedOk G D Q σ0 We N I J L0 ns kk (dS f) σ') (fun _ _ _=>False):=by
 obtain⟨pm4,cd4,D4⟩:=Y.fD 4 _ rfl
 obtain⟨pm6,cd6,D6⟩:=Y.fD 6 _ rfl
 obtain⟨pm7,cd7,D7⟩:=Y.fD 7 _ rfl
 have B:=W.B
 have g4:=Y.gN 4 _ rfl
 have g6:=Y.gN 6 _ rfl
 have g7:=Y.gN 7 _ rfl
 have ga:=Y.gAll
 obtain⟨mg,gl1,gl2⟩:=Y.glob
 have lm:(bi uX n).lookup (Str.ofString "machine")=some n:=bR 0 rfl (by decide +kernel)
 have r32:=hh.M.r32
 have l32:L.regs.length=32:=by rw[← g.regs];exact r32
 have hin:L.inp.length≤1000000:=by
  have h1:=g.inp
  have h2:=hh.M.bI
  have h3:=congrArg List.length h1
  rw[bN,List.length_drop] at h3
  exact q2 0 0 0 1000000 0 1000000 (q2 0 0 0 0 0 0 (Nat.le_of_eq h3) (Nat.sub_le _ _) rfl) h2 rfl
 have hrng:=kW (B:=4294967296) (by decide) g.rr 10
 have hout:S.out.length≤900:=by rw[g.out,bN];exact hob
 have GO:=g.outer r32
 rw[show uW=[_,_,_,_] from rfl]
 refine b5 rfl<|bF rfl ‹_› rfl ‹_›<|ai rfl<|ac<|aD ‹_› ?_
 refine cp (oQ W Y hh.A l32 (q1 0 900 0 1000000 hob rfl) hin) rfl rfl fun r σ1 q=>?_
 obtain⟨du,r1,hdu,q⟩:=q
 subst r1
 have hcm0:=ce.zero rfl
 have ofd:n≤du:=by have:=am hcm0;exact q2 1 0 0 0 0 0 this hdu rfl
 clear hcm0
 rcases q with⟨L1,J1,e1,hl,A1,ja,jd,ji,K1⟩ | ⟨e1,hl,K1⟩
 ·obtain⟨oq1,oq2,oq3,oq4,oq5⟩:=fB e1
  obtain⟨oq6,oq7⟩:=j1 e1 hd
  rcases GO with⟨S1,L2,c1,c2,g1⟩ | ⟨c1,c2⟩
  ·rw[e1] at c2
   cases c2
   replace g1:=g1 hd
   replace hh:=hh.state K1 A1 ja ji
   replace hK:=hK.trans K1 (fun _ h=>h) mG
   replace ce:=ce.kept K1 (pP old mG)
   rw[← jd]
   refine wF rfl<|b5 rfl<|bF rfl ‹_› rfl ‹_›<|af ?_
   have hcm:=ce.zero rfl
   refine dw (T:=3) (cl:=[("machine",n)]) (hh.tabs 3 (by decide)) (fun _=>rfl) (fun env f h=>by unfold closureFor cellOf;rw[h];rfl) (fun p hp=>?_) gl1 (Y.tabP 3 (by decide)) rfl (Y.hd 3 (by decide)) (gl2 3 (by decide)) (fun i k' σ8 q1 q2 q3 q4=>?_)
   ·simp only[lxm,lxn,or_false] at hp
    subst hp
    exact am hcm
   clear hcm
   replace hl:=q4 _ _ (up old (e7 (by decide)) ofd) hl
   replace ce:=ce.kept q4 (pP old (e7 (by decide)))
   replace hh:=hh.made (by decide) q4 q3
   replace hK:=hK.trans q4 (fun _ h=>h) (e7 (by decide))
   refine ac<|aD ‹_› ?_
   have hcm:=ce.zero rfl
   have hm:=hh.M.m
   refine bj (fA (k:=8) W Lg Y q1 (by decide) (fG (n:=7) (cs:=["machine"]) (gs:=[]) q1 q2 Y.lim ⟨rfl,rfl,rfl,by decide +kernel,by decide +kernel,by decide +kernel⟩ (fun _ _ _ _=>rfl) ?_)) rfl (by decide)
   (refine bq ?_;apply aQ;exact rfl;exact rfl;assumption;apply qP;assumption;assumption;exact rfl;apply ac;refine⟨ok fun _=>by(apply di;(assumption);(exact rfl)),?_⟩;dsimp only[bU,bV])
   refine bj (CtP.imp (ia W Lg V hh.M g.tk (by lia) (by rw[g.regs];exact hrng)) (fun r σ9 q=>?_) (fun i σ9 q=>?_)) rfl (by decide)
   ·obtain⟨rfl,S2,s1,s2,s3⟩:=q
    rw[c1] at s1
    cases s1
    replace hl:=s3 _ _ (up old hG ofd) hl
    replace hh:=(hh.mach s3 s2).app (l:=[AO.list [AV.str "",AV.none]])
    replace hK:=(hK.trans s3 (fun _ h=>h) hG).app (l:=[AO.list [AV.str "",AV.none]])
    replace ce:=(ce.kept s3 (pP old hG)).app (l:=[AO.list [AV.str "",AV.none]])
    refine⟨by simp,?_⟩
    refine qV rfl<|bY<|eg<|cr<|bP rfl ‹_› rfl ‹_›<|ai rfl<|ai rfl<|ai rfl<|af<|dO<|ac<|aD ‹_› ?_
    refine bX (f6 (J:=J1) W Y (aj rfl rfl) (ad hl) .n) rfl rfl fun r σ10 q=>?_
    obtain⟨u1,u2⟩:=q
    subst u1
    replace hh:=hh.keep u2
    replace hK:=hK.keep u2
    replace ce:=ce.keep u2
    have hdd:=hh.A.d
    have hcm:=ce.zero rfl
    have hm:=hh.M.m
    have fine:DeedOk G D Q σ0 We N I J L0 ns kk (.bool true) σ10:=⟨rfl,_,J1,L1,hh,g1,jd,ja,by rw[oq2,z1],by rw[← z2];exact oq4,by rw[← z3];exact oq6,hK⟩
    refine aJ<|au (eF rfl)<|aI<|bE<|gz<|rE<|oa<|bd rfl ‹_› iv<|o1 (fun _=>vq)<|aJ ?_
    cases hD:L1.done
    ·refine aR (uw rfl)<|aM ?_
     exact fine
    ·have e5:S1.status=(va+2147483648) % 4294967296 - 2147483648:=by rw[g1.st hD,oq7 hD,hva];rfl
     refine au (eF rfl)<|lF<|gy<|aH<|aQ rfl ‹_› ‹_›<|aV ‹_› ‹_› rfl<|aG<|aG<|aX rfl<|i2 (fun _=>bh)<|ax ‹_› rfl ‹_›<|o2 (fun _=>cw (by decide))<|i2 (fun _=>cC)<|o2 (fun _=>bL)<|aM ?_
     rw[e5,beq_self_eq_true]
     exact fine
   ·obtain⟨s1,_⟩:=q
    rw[c1] at s1;cases s1
  ·rw[e1] at c2;cases c2
 ·rcases GO with⟨S1,L2,c1,c2,g1⟩ | ⟨c1,c2⟩
  ·rw[e1] at c2;cases c2
  ·replace hh:=hh.keep K1
   replace hK:=hK.keep K1
   replace ce:=ce.keep K1
   refine wF rfl<|b5 rfl<|bF rfl ‹_› rfl ‹_›<|af ?_
   have hcm:=ce.zero rfl
   refine dw (T:=3) (cl:=[("machine",n)]) (hh.tabs 3 (by decide)) (fun _=>rfl) (fun env f h=>by unfold closureFor cellOf;rw[h];rfl) (fun p hp=>?_) gl1 (Y.tabP 3 (by decide)) rfl (Y.hd 3 (by decide)) (gl2 3 (by decide)) (fun i k' σ8 q1 q2 q3 q4=>?_)
   ·simp only[lxm,lxn,or_false] at hp
    subst hp
    exact am hcm
   clear hcm
   replace hl:=q4 _ _ (up old (e7 (by decide)) ofd) hl
   replace ce:=ce.kept q4 (pP old (e7 (by decide)))
   replace hh:=hh.made (by decide) q4 q3
   replace hK:=hK.trans q4 (fun _ h=>h) (e7 (by decide))
   refine ac<|aD ‹_› ?_
   have hcm:=ce.zero rfl
   have hm:=hh.M.m
   refine bj (fA (k:=8) W Lg Y q1 (by decide) (fG (n:=7) (cs:=["machine"]) (gs:=[]) q1 q2 Y.lim ⟨rfl,rfl,rfl,by decide +kernel,by decide +kernel,by decide +kernel⟩ (fun _ _ _ _=>rfl) ?_)) rfl (by decide)
   (refine bq ?_;apply aQ;exact rfl;exact rfl;assumption;apply qP;assumption;assumption;exact rfl;apply ac;refine⟨ok fun _=>by(apply di;(assumption);(exact rfl)),?_⟩;dsimp only[bU,bV])
   refine bj (CtP.imp (ia W Lg V hh.M g.tk (by lia) (by rw[g.regs];exact hrng)) (fun r σ9 q=>?_) (fun i σ9 q=>?_)) rfl (by decide)
   ·obtain⟨rfl,S2,s1,_⟩:=q
    rw[c1] at s1;cases s1
   ·obtain⟨_,s2,s3,s4⟩:=q
    rw[g.pc] at s2
    refine⟨_,_,s2,?_⟩
    replace hl:=s4 _ _ (up old hG ofd) hl
    replace hh:=(hh.mach s4 s3).app (l:=[AO.list [AV.str "ecall",AV.int L.pc]])
    replace hK:=(hK.trans s4 (fun _ h=>h) hG).app (l:=[AO.list [AV.str "ecall",AV.int L.pc]])
    refine qV rfl<|bY<|eg<|cr<|bP rfl ‹_› rfl ‹_›<|ai rfl<|ai rfl<|ai rfl<|af<|dO<|ac<|aD ‹_› ?_
    refine bX (fg (w := "ecall") (ys:=["ecall"]) W Y hh.A (aj rfl rfl) (ad hl) (by simp) (by simp)) rfl rfl fun r σ10 q=>?_
    obtain⟨u1,u2⟩:=q
    subst u1
    replace hh:=hh.keep u2
    replace hK:=hK.keep u2
    have hdd:=hh.A.d
    have fine:DeedOk G D Q σ0 We N I J L0 ns kk (.bool true) σ10:=⟨rfl,_,J,L,hh,g,rfl,rfl,by rw[z1],by rw[z2];exact Nat.le_succ _,by rw[z3];exact Nat.le_refl _,hK⟩
    refine aJ<|au (eF rfl)<|aI<|bE<|gz<|rE<|oa<|bd rfl ‹_› iv<|o1 (fun _=>vq)<|aJ<|aR (uw ‹_›)<|aM ?_
    show DeedOk G D Q σ0 We N I J L0 ns kk (AV.bool !L.done) σ10
    rw[hd]
    exact fine
theorem sK (W:Wd G D gt bt) (Lg:Gl gt bt D) (V:Dec G Z gt) (Y:Law G Q gt) (h:Hq G D Q σ We N I S J L ns k) (g:Ag S L) (hd:L.done=false) (hk:k < 700) (hob:L.out.length≤900) :
  CtP G 10 σ (.base (Q.fn 12)) [.dyn We,.dyn I.m,.dyn J.d] (DeedOk G D Q σ We N I J L ns (k+2)) (fun _ _=>False):=by
 (refine b8 (Y.lD 3 _ _ rfl) fun pm DD=>?_)
 (refine bC (Y.fD 0 _ rfl) fun pm0 cd0 D0=>?_)
 (refine bC (Y.fD 4 _ rfl) fun pm4 cd4 D4=>?_)
 (refine bC (Y.fD 6 _ rfl) fun pm6 cd6 D6=>?_)
 (refine bC (Y.fD 7 _ rfl) fun pm7 cd7 D7=>?_)
 have B:=W.B
 have g0:=Y.gN 0 _ rfl
 have g4:=Y.gN 4 _ rfl
 have g6:=Y.gN 6 _ rfl
 have g7:=Y.gN 7 _ rfl
 have ga:=Y.gAll
 (refine aF (Y.glob) fun mg gl1 gl2=>?_)
 refine ic ["well", "machine", "state"] Be uX Bf (Be.drop 2) 9 (cvs:=[some (.dyn I.m)]) (lv:=[("well",.dyn We),("state",.dyn J.d),("asked",.unk),("value",.unk),("number",.unk),("given",.unk),("due",.unk),("heard",.unk)]) DD (by kernel_rfl) (fun _=>rfl) rfl (fW fun _ _ _=>rfl) rfl (by
  with_unfolding_all rfl) (by with_unfolding_all rfl) ?_
 have lm:(bi uX σ.length).lookup (Str.ofString "machine")=some σ.length:=bR 0 rfl (by decide +kernel)
 have ce:Ce (σ++[some (AV.dyn I.m)].map AO.cell) σ.length [some (.dyn I.m)]:=Ce.new
 have hK:KeptBut (fQ We I J) σ (σ++[some (AV.dyn I.m)].map AO.cell) := .app (.refl _)
 have hh:=h.app (l:=[some (AV.dyn I.m)].map AO.cell)
 have old:=h.old
 generalize σ++[some (AV.dyn I.m)].map AO.cell=σ0 at ce hK hh
 generalize hn:σ.length=n at lm ce old
 refine aW<|dV rfl (by exact rfl) (by exact rfl) rfl (by rw[bG];rfl) rfl rfl rfl<|b9<|af<|bg<|aP<|az<|az<|az<|az<|az<|az<|az<|az<|ac<|aL rfl<|bP rfl ‹_› rfl ‹_›<|ai rfl<|az<|ac<|aD ‹_› ?_
 refine bX (cR (m:=8) W Lg Y (hh.app (l:=[AO.list [AV.int 1,AV.int 2,AV.int 93,AV.int 0,AV.int 2,AV.int 1,AV.int 94,AV.int 5]])).H (q1 1 700 1 900 hk rfl) (by decide)) rfl rfl fun r σ1 qq1=>?_
 (refine bW qq1 fun v r1 r2 r3 r4 r5=>?_;clear qq1)
 subst r1
 have hls:=r4 _ _ (dy (by have:=hh.H.lt;exact Nat.ne_of_gt this)) (aj (l:=σ0) (m:=[AO.list [AV.int 1,AV.int 2,AV.int 93,AV.int 0,AV.int 2,AV.int 1,AV.int 94,AV.int 5]]) rfl rfl)
 replace hh:=hh.app.drawn r4 r3
 replace hK:=hK.trans r4.less (fun _ h=>h) dp
 replace ce:=ce.app.kept r4 (pP old dp)
 clear r3 r4 r5
 obtain⟨as,has,hx⟩:∃as:Int,(0≤as∧as < 4294967296)∧([AV.int 1,AV.int 2,AV.int 93,AV.int 0,AV.int 2,AV.int 1,AV.int 94,AV.int 5])[v.toNat]? = some (AV.int as):=by
  have:v=0∨v=1∨v=2∨v=3∨v=4∨v=5∨v=6∨v=7:=v8 r2
  rcases this with rfl | rfl | rfl | rfl | rfl | rfl | rfl | rfl<;>exact⟨_,by decide,rfl⟩
 refine bu hls r2.1 (Int.lt_of_lt_of_le r2.2 (by decide)) hx (by intro _ _;with_unfolding_all rfl) ?_
 clear hls hx r2
 refine af<|bP rfl ‹_› rfl ‹_›<|ai rfl<|af<|ax ‹_› rfl ‹_›<|ac<|aD ‹_› ?_
 refine bX (cR (m:=4294967296) W Lg Y hh.H (q1 1 700 2 900 hk rfl) (by decide)) rfl rfl fun r σ2 qq2=>?_
 (refine bW qq2 fun va r1 hva r3 r4 r5=>?_;clear qq2)
 subst r1
 replace hh:=hh.drawn r4 r3
 replace hK:=hK.trans r4 (fun _ h=>h) dp
 replace ce:=ce.kept r4 (pP old dp)
 clear r3 r4 r5
 (refine ac<|And.intro (bZ (by(simp only[lxC,lxN,lxA,lxM,lxS,List.length_replicate];decide))) ?_;apply Exists.intro;apply Exists.intro;apply Exists.intro;refine And.intro rfl ?_;apply And.intro;exact aj rfl rfl;apply aK;dsimp only[bS,bT,cK,bV,bU];rfl;refine aW ?_)
 refine eJ rfl ?_
 refine aP<|af<|b9<|az<|ai rfl<|ac<|And.intro (bZ (by(simp only[lxC,lxN,lxA,lxM,lxS,List.length_replicate];decide)))<|af<|b9<|az<|ai rfl<|ac<|And.intro (bZ (by(simp only[lxC,lxN,lxA,lxM,lxS,List.length_replicate];decide)))<|ac<|And.intro (bZ (by(simp only[lxC,lxN,lxA,lxM,lxS,List.length_replicate];decide))) ?_
 have hn2:n≤σ2.length:=by have:=am (ce.zero rfl);exact q1 1 0 0 0 this rfl
 have K3:Keep σ2 (σ2++[AO.tuple [AV.int as,AV.int va]]++[AO.tuple [AV.int 17,AV.int as]]++[AO.tuple [AV.int 10,AV.int va]]++[AO.list [AV.dyn (σ2++[AO.tuple [AV.int as,AV.int va]]).length,AV.dyn (σ2++[AO.tuple [AV.int as,AV.int va]]++[AO.tuple [AV.int 17,AV.int as]]).length]]):=fun i o h=>ad (ad (ad (ad h)))
 replace hh:=hh.keep K3
 replace hK:=hK.keep K3
 replace ce:=ce.keep K3
 clear K3
 have ht1:(σ2++[AO.tuple [AV.int as,AV.int va]]++[AO.tuple [AV.int 17,AV.int as]]++[AO.tuple [AV.int 10,AV.int va]]++[AO.list [AV.dyn (σ2++[AO.tuple [AV.int as,AV.int va]]).length,AV.dyn (σ2++[AO.tuple [AV.int as,AV.int va]]++[AO.tuple [AV.int 17,AV.int as]]).length]])[(σ2++[AO.tuple [AV.int as,AV.int va]]).length]? = some (.tuple [.int 17,.int as]):=ad (ad (aj rfl rfl))
 have ht2:(σ2++[AO.tuple [AV.int as,AV.int va]]++[AO.tuple [AV.int 17,AV.int as]]++[AO.tuple [AV.int 10,AV.int va]]++[AO.list [AV.dyn (σ2++[AO.tuple [AV.int as,AV.int va]]).length,AV.dyn (σ2++[AO.tuple [AV.int as,AV.int va]]++[AO.tuple [AV.int 17,AV.int as]]).length]])[(σ2++[AO.tuple [AV.int as,AV.int va]]++[AO.tuple [AV.int 17,AV.int as]]).length]? = some (.tuple [.int 10,.int va]):=ad (aj rfl rfl)
 have hR:(σ2++[AO.tuple [AV.int as,AV.int va]]++[AO.tuple [AV.int 17,AV.int as]]++[AO.tuple [AV.int 10,AV.int va]]++[AO.list [AV.dyn (σ2++[AO.tuple [AV.int as,AV.int va]]).length,AV.dyn (σ2++[AO.tuple [AV.int as,AV.int va]]++[AO.tuple [AV.int 17,AV.int as]]).length]])[(σ2++[AO.tuple [AV.int as,AV.int va]]++[AO.tuple [AV.int 17,AV.int as]]++[AO.tuple [AV.int 10,AV.int va]]).length]? = some (.list [AV.dyn (σ2++[AO.tuple [AV.int as,AV.int va]]).length,AV.dyn (σ2++[AO.tuple [AV.int as,AV.int va]]++[AO.tuple [AV.int 17,AV.int as]]).length]):=aj rfl rfl
 have l1:n≤(σ2++[AO.tuple [AV.int as,AV.int va]]).length:=by simp;exact q1 0 0 0 1 hn2 rfl
 have l2:n≤(σ2++[AO.tuple [AV.int as,AV.int va]]++[AO.tuple [AV.int 17,AV.int as]]).length:=by simp;exact q1 0 0 0 2 hn2 rfl
 have l3:n≤(σ2++[AO.tuple [AV.int as,AV.int va]]++[AO.tuple [AV.int 17,AV.int as]]++[AO.tuple [AV.int 10,AV.int va]]).length:=by simp;exact q1 0 0 0 3 hn2 rfl
 generalize (σ2++[AO.tuple [AV.int as,AV.int va]]++[AO.tuple [AV.int 17,AV.int as]]++[AO.tuple [AV.int 10,AV.int va]]).length=R at hR l3 ⊢
 generalize (σ2++[AO.tuple [AV.int as,AV.int va]]++[AO.tuple [AV.int 17,AV.int as]]).length=t2 at hh hK ce ht1 ht2 hR l2 ⊢
 generalize (σ2++[AO.tuple [AV.int as,AV.int va]]).length=t1 at hh hK ce ht1 ht2 hR l1 ⊢
 generalize σ2++[AO.tuple [AV.int as,AV.int va]]++[AO.tuple [AV.int 17,AV.int as]]++[AO.tuple [AV.int 10,AV.int va]]++[AO.list [AV.dyn t1,AV.dyn t2]]=σ3 at hh hK ce ht1 ht2 hR ⊢
 refine⟨[.dyn t1,.dyn t2],_,fun A hh=>jv hh hR,?_⟩
 refine j9 (j:=0) (m:=17) (v:=as) W Lg hh g hd (ce.zero rfl) old rfl ht1 hR (by decide) (by decide) has l1 l3 (fun σ4 K4 h4 g4'=>?_)
 refine j9 (j:=1) (m:=10) (v:=va) W Lg h4 g4' hd ((ce.kept K4 old).zero rfl) old rfl (K4 _ _ (up old (fun _ h=>h) l2) ht2) (K4 _ _ (up old (fun _ h=>h) l3) hR) (by decide) (by decide) hva l2 l3 (fun σ5 K5 h5 g5'=>?_)
 refine ei rfl (K5 _ _ (up old (fun _ h=>h) l3) (K4 _ _ (up old (fun _ h=>h) l3) hR)) ?_
 with_reducible apply ap
 refine pi (as:=as) W Lg V Y h5 g5' hd hob ?_ hva ((hK.trans K4 (fun _ h=>h) (fun _ h=>h)).trans K5 (fun _ h=>h) (fun _ h=>h)) ((ce.kept K4 old).kept K5 old) old rfl rfl rfl
 have h17:10 < (L.regs.set 17 as).length:=by rw[List.length_set,← g.regs,h.M.r32];decide
 show ((L.regs.set 17 as).set 10 va).getD 10 0=va
 rw[List.getD_eq_getElem?_getD,List.getElem?_set_self h17]
 rfl
end
section
set_option maxHeartbeats 8000000
variable {G:Gd} {D:Ad} {Z:DAd} {Q:LAd} {gt bt:List (Str×AV)} {σ:List AO} {C:Cx} {lv:List (Str×AV)} {I:MI} {S:MSt} {J:LI} {L:LSt} {We N k:Nat} {ns:List Int}
noncomputable abbrev AP:List Str:=["well", "state", "heard"]
noncomputable abbrev uK:List Str:=["machine", "target"]
noncomputable abbrev AQ:List Str:=["_law_draw", "_law_told", "_law_agrees", "_law_all"]
noncomputable abbrev CL (pm:Value) (cd:Addr) (n:Nat):Cx:=fM (iJ 13 "_law_jumped" pm cd) AP uK AQ n 9
noncomputable def uJ:List Stmt:=(dG (iJ 13 "_law_jumped" .none 0)).drop 2
theorem j7 (W:Wd G D gt bt) (Lg:Gl gt bt D) (Y:Law G Q gt) (hh:Hq G D Q σ We N I S J L ns kk) (g:Ag S L) (hd:L.done=false)
  (hK:KeptBut (fQ We I J) σ0 σ) (ce:Ce σ n [some (.dyn I.m),some (.int t)]) (old:∀i∈fQ We I J,i < n) :
  eQ G (CL pm (Q.cd 4) n) [("well",.dyn We),("state",.dyn J.d),("heard",.unk)] σ uJ (fun f _ σ'=>DeedOk G D Q σ0 We N I J L ns kk (dS f) σ') (fun _ _ _=>False):=by
 (refine bC (Y.fD 6 _ rfl) fun pm6 cd6 D6=>?_)
 (refine bC (Y.fD 7 _ rfl) fun pm7 cd7 D7=>?_)
 have B:=W.B
 have g6:=Y.gN 6 _ rfl
 have g7:=Y.gN 7 _ rfl
 have ga:=Y.gAll
 (refine aF (Y.glob) fun mg gl1 gl2=>?_)
 have lm:(bi uK n).lookup (Str.ofString "machine")=some n:=bR 0 rfl (by decide +kernel)
 have lt:(bi uK n).lookup (Str.ofString "target")=some (n+1):=bR 1 rfl (by decide +kernel)
 have hcm:=ce.zero rfl
 have hct:=ce 1 _ rfl
 rw[show uJ=[_,_,_,_] from rfl]
 refine b5 rfl<|bF rfl ‹_› rfl ‹_›<|af ?_
 refine dw (T:=4) (cl:=[("target",n+1),("machine",n)]) (hh.tabs 4 (by decide)) (fun _=>rfl) (fun env f h=>by unfold closureFor cellOf;rw[h];rfl) (fun p hp=>?_) gl1 (Y.tabP 4 (by decide)) rfl (Y.hd 4 (by decide)) (gl2 4 (by decide)) (fun i k' σ8 q1 q2 q3 q4=>?_)
 ·have z1:=am hcm
  have z2:=am hct
  simp only[lxm,lxn,or_false] at hp
  rcases hp with rfl | rfl
  ·exact z2
  ·exact z1
 clear hcm hct
 replace ce:=ce.kept q4 (pP old (e7 (by decide)))
 replace hh:=hh.made (by decide) q4 q3
 replace hK:=hK.trans q4 (fun _ h=>h) (e7 (by decide))
 refine ac<|aD ‹_› ?_
 have hcm:=ce.zero rfl
 have hct:=ce 1 _ rfl
 have hm:=hh.M.m
 refine bj (fA (k:=8) W Lg Y q1 (by decide) (fG (n:=7) (cs:=["machine", "target"]) (gs:=[]) q1 q2 Y.lim ⟨rfl,rfl,rfl,by decide +kernel,by decide +kernel,by decide +kernel⟩ (fun _ _ _ _=>rfl) ?_)) rfl (by decide)
 (refine bq ?_;apply aQ;exact rfl;exact rfl;assumption;apply zU;assumption;assumption;exact rfl;refine af ?_;apply aQ;exact rfl;exact rfl;assumption;apply ac;refine⟨ok fun _=>by(apply di;(assumption);(exact rfl)),?_⟩;dsimp only[bU,bV])
 refine bj (CtP.imp (xk (t:=t) W Lg hh.M) (fun r σ9 q=>?_) (fun i σ9 q=>?_)) rfl (by decide)
 ·(refine fY q fun s0 zz4 s2 s3=>?_;clear q;subst zz4)
  have s3:=s3.wider DJ
  replace hh:=(hh.mach s3 s2).app (l:=[AO.list [AV.str "",AV.none]])
  replace hK:=(hK.trans s3 (fun _ h=>h) hG).app (l:=[AO.list [AV.str "",AV.none]])
  replace ce:=(ce.kept s3 (pP old hG)).app (l:=[AO.list [AV.str "",AV.none]])
  have hH:(σ9++[AO.list [AV.str "",AV.none]])[σ9.length]? = some (.list [.str "",.none]):=aj rfl rfl
  refine⟨by simp,?_⟩
  generalize σ9.length=hd9 at hH ⊢
  generalize σ9++[AO.list [AV.str "",AV.none]]=σ9 at hh hK ce hH ⊢
  have hct:=ce 1 _ rfl
  refine eN rfl<|bY<|eg<|cr<|bP rfl ‹_› rfl ‹_›<|ai rfl<|ai rfl<|af<|eM<|aY<|aG<|aQ rfl ‹_› ‹_›<|i2 (fun _=>cw (by decide))<|dE (fun _=>fj)<|au (cj ‹_›)<|aP<|ac<|aL rfl<|af<|dO<|ac<|aD ‹_› ?_
  refine bX (f6 (J:=J) W Y (ad hH) (aj rfl rfl) .n) rfl rfl fun r σ10 q=>?_
  (refine bD q fun u1 u2=>?_;clear q)
  subst u1
  replace hh:=hh.app.keep u2
  replace hK:=hK.app.keep u2
  replace ce:=ce.app.keep u2
  have hdd:=hh.A.d
  have hct:=ce 1 _ rfl
  refine aJ<|au (eF rfl)<|aI<|ay rfl<|aG<|aQ rfl ‹_› ‹_›<|i2 (fun _=>cw (by decide))<|dE (fun _=>bL)<|aR (cg ‹_›)<|aA rfl<|aG<|aQ rfl ‹_› ‹_›<|ax ‹_› rfl ‹_›<|o2 (fun _=>cw (by decide))<|ck<|aa rfl<|cB<|eK ‹_› (by simp only[lxC,lxN,lxA,lxM,lxS,List.length_replicate];decide)<|ap<|aI<|bE<|et<|aM ?_
  have A':=hh.A.setD (L':={ L with pc:=t % 4294967296 }) yt rfl rfl rfl rfl
  have K':KeptBut J.all σ10 (σ10.set J.d (AO.sdict G.w (st (sd J L) (Str.ofString "pc") (AV.int (t % 4294967296))))) := .set (by simp) (.refl _)
  exact⟨rfl,_,J,_,hh.state K' A' rfl (.inl rfl),{ g with pc:=rfl,st:=fun q=>by have:L.done=true:=q;rw[hd] at this;cases this },rfl,rfl,rfl,Nat.le_succ _,Nat.le_refl _,hK.trans K' (fun _ h=>h) mG⟩
 ·(refine dA q fun s0 s1 s2=>?_;clear q)
  rw[g.pc] at s1
  refine⟨_,_,s1,?_⟩
  replace hh:=(hh.keep s2).app (l:=[AO.list [AV.str "align",AV.int L.pc]])
  replace hK:=(hK.keep s2).app (l:=[AO.list [AV.str "align",AV.int L.pc]])
  replace ce:=(ce.keep s2).app (l:=[AO.list [AV.str "align",AV.int L.pc]])
  have hct:=ce 1 _ rfl
  refine eN rfl<|bY<|eg<|cr<|bP rfl ‹_› rfl ‹_›<|ai rfl<|ai rfl<|af<|eM<|aY<|aG<|aQ rfl ‹_› ‹_›<|i2 (fun _=>cw (by decide))<|dE (fun _=>fj)<|aR (dU ‹_›)<|aP<|bx<|ac<|aL rfl<|af<|dO<|ac<|aD ‹_› ?_
  refine bX (fg (w := "align") (ys:=["align"]) W Y hh.app.A (ad (aj rfl rfl)) (aj rfl rfl) (by simp) (by simp)) rfl rfl fun r σ10 q=>?_
  (refine bD q fun u1 u2=>?_;clear q)
  subst u1
  replace hh:=hh.app.keep u2
  replace hK:=hK.app.keep u2
  replace ce:=ce.app.keep u2
  have hct:=ce 1 _ rfl
  refine aJ<|au (eF rfl)<|aI<|ay rfl<|aG<|aQ rfl ‹_› ‹_›<|i2 (fun _=>cw (by decide))<|dE (fun _=>bL)<|au (av ‹_›)<|aI<|bE<|et<|aM ?_
  exact⟨rfl,S,J,L,hh,g,rfl,rfl,rfl,Nat.le_succ _,Nat.le_refl _,hK⟩
theorem sr (W:Wd G D gt bt) (Lg:Gl gt bt D) (Y:Law G Q gt) (h:Hq G D Q σ We N I S J L ns k) (g:Ag S L) (hd:L.done=false) (hk:k < 700) :
  CtP G 10 σ (.base (Q.fn 13)) [.dyn We,.dyn I.m,.dyn J.d] (DeedOk G D Q σ We N I J L ns (k+2)) (fun _ _=>False):=by
 (refine b8 (Y.lD 4 _ _ rfl) fun pm DD=>?_)
 (refine bC (Y.fD 0 _ rfl) fun pm0 cd0 D0=>?_)
 have B:=W.B
 have g0:=Y.gN 0 _ rfl
 refine ic ["well", "machine", "state"] AP uK AQ (AP.drop 2) 9 (cvs:=[some (.dyn I.m),none]) (lv:=[("well",.dyn We),("state",.dyn J.d),("heard",.unk)]) DD (by kernel_rfl) (fun _=>rfl) rfl (fW fun _ _ _=>rfl) rfl (by
  with_unfolding_all rfl) (by with_unfolding_all rfl) ?_
 have lt:(bi uK σ.length).lookup (Str.ofString "target")=some (σ.length+1):=bR 1 rfl (by decide +kernel)
 have ce:Ce (σ++[some (AV.dyn I.m),none].map AO.cell) σ.length [some (.dyn I.m),none]:=Ce.new
 have hK:KeptBut (fQ We I J) σ (σ++[some (AV.dyn I.m),none].map AO.cell) := .app (.refl _)
 have hh:=h.app (l:=[some (AV.dyn I.m),none].map AO.cell)
 have old:=h.old
 generalize σ++[some (AV.dyn I.m),none].map AO.cell=σ0 at ce hK hh
 generalize hn:σ.length=n at lt ce old
 refine aA rfl<|aG<|bP rfl ‹_› rfl ‹_›<|ai rfl<|az<|ac<|aD ‹_› ?_
 refine bX (cR (m:=12884901888) W Lg Y hh.H (q1 1 700 1 900 hk rfl) (by decide)) rfl rfl fun r σ1 q=>?_
 (refine bW q fun v r1 r2 r3 r4 r5=>?_;clear q)
 subst r1
 replace hh:=hh.drawn r4 r3
 replace hK:=hK.trans r4 (fun _ h=>h) dp
 replace ce:=ce.kept r4 (pP old dp)
 have b1 : -4294967296≤v - 4294967296∧v - 4294967296 < 8589934592:=⟨Int.sub_le_sub_right r2.1 _,Int.lt_of_lt_of_le (Int.sub_lt_sub_right r2.2 _) (by decide)⟩
 clear r2 r3 r4 r5
 have hct:=ce 1 _ rfl
 refine i2 (fun _=>cC)<|de rfl rfl ‹_› ‹_›<|ap<|ay rfl<|bP rfl ‹_› rfl ‹_›<|ai rfl<|az<|ac<|aD ‹_› ?_
 replace hh:=hh.cell (a:=some (.int (v - 4294967296))) hct
 replace hK:=hK.setNew (j:=n+1) (a := .cell (some (.int (v - 4294967296)))) (q1 0 0 0 1 (Nat.le_of_eq hn) rfl)
 replace ce:=ce.set (j:=1) (a:=some (.int (v - 4294967296))) rfl
 clear hct
 generalize v - 4294967296=t at hh hK ce b1 ⊢
 generalize σ1.set (n+1) (AO.cell (some (AV.int t)))=σ2 at hh hK ce ⊢
 refine bX (cR (m:=2) W Lg Y hh.H (q1 1 700 2 900 hk rfl) (by decide)) rfl rfl fun r σ3 q=>?_
 (refine bW q fun w r1 r2 r3 r4 r5=>?_;clear q)
 subst r1
 replace hh:=hh.drawn r4 r3
 replace hK:=hK.trans r4 (fun _ h=>h) dp
 replace ce:=ce.kept r4 (pP old dp)
 clear r2 r3 r4 r5
 have hct:=ce 1 _ rfl
 by_cases c:w=0
 ·refine dE (fun _=>bL)<|aR (cg ‹_›)<|aA rfl<|aG<|aG<|aQ rfl ‹_› ‹_›<|i2 (fun _=>qy (by decide) (by decide))<|i2 (fun _=>fO (cF (by decide) (by decide)))<|de rfl rfl ‹_› ‹_›<|ap<|bH ?_
  with_reducible apply ap
  exact j7 W Lg Y (hh.cell (a:=some (.int (t / 4*4))) hct) g hd (hK.setNew (j:=n+1) (a := .cell (some (.int (t / 4*4)))) (q1 0 0 0 1 (Nat.le_of_eq hn) rfl)) (ce.set (j:=1) (a:=some (.int (t / 4*4))) rfl) old
 ·refine dE (fun _=>bL)<|au (av ‹_›)<|bH ?_
  with_reducible apply ap
  exact j7 W Lg Y hh g hd hK ce old
end
section
set_option maxHeartbeats 8000000
variable {G:Gd} {D:Ad} {Z:DAd} {Q:LAd} {gt bt:List (Str×AV)} {σ σ':List AO} {C:Cx} {lv:List (Str×AV)} {I:MI} {S:MSt} {J:LI} {L:LSt} {We N k k':Nat} {ns:List Int}
theorem WellAt.mono (h:WellAt σ We N ns k) (e:k≤k'):WellAt σ We N ns k':=by
 (refine dL h fun p c h1 h2 h3 h4 h5=>?_;clear h)
 exact⟨p,c,h1,h2,Int.le_trans h3 (Int.ofNat_le.mpr e),h4,h5⟩
theorem Hq.mono (h:Hq G D Q σ We N I S J L ns k) (e:k≤k'):Hq G D Q σ We N I S J L ns k':=⟨h.M,h.A,h.H.mono e,h.tabs,h.hN,h.nJ,h.off,h.offi⟩
noncomputable abbrev A4:List Str:=["well", "machine", "state", "turn", "kind", "held"]
noncomputable abbrev A5:List Str:=["range", "_law_draw", "_law_stored", "_law_loaded", "_law_row_read", "_law_register_put", "_law_called", "_law_jumped", "_law_stands"]
noncomputable abbrev sG (pm:Value) (cd:Addr):Cx:=iN (iJ 14 "_law_deeds_right" pm cd) A4 A5 11
noncomputable def iL:Stmt:=(dG (iJ 14 "_law_deeds_right" .none 0)).getD 0 kg
noncomputable abbrev xp (We m d:Nat) (tu ki he:AV):List (Str×AV):=[("well",.dyn We),("machine",.dyn m),("state",.dyn d),("turn",tu),("kind",ki),("held",he)]
def kx (G:Gd) (D:Ad) (Q:LAd) (σ:List AO) (We N:Nat) (I:MI) (J:LI) (ns:List Int) (kk:Nat) (σ':List AO):Prop :=
 ∃S' J' L',Hq G D Q σ' We N I S' J' L' ns kk∧KeptBut (fQ We I J) σ σ'
theorem DeedOk.more (h:DeedOk G D Q σ We N I J L ns kk r σ') (e:kk≤kk'):DeedOk G D Q σ We N I J L ns kk' r σ':=by
 (refine nM h fun a S' J' L' b c=>?_;clear h)
 exact⟨a,S',J',L',b.mono e,c⟩
noncomputable def nO:List Stmt:=match iL with | .For _ _ b _ _=>b.drop 2 | _=>[]
theorem pe {K:AFl→List (Str×AV)→List AO→Prop} (W:Wd G D gt bt) (Lg:Gl gt bt D) (Y:Law G Q gt)
  (hh:Hq G D Q σ We N I S J L ns kk) (g:Ag S L) (hk:kk≤kE) (hK:KeptBut (fQ We I J0) σ0 σ) (ed:J.d=d)
  (k1:∀lv,kx G D Q σ0 We N I J0 ns kE σ→K (.ret (.bool true)) lv σ)
  (k2:L.done=false→qB G (sG pm cd) (bk iL).1 (bk iL).2 (fun _=>True) ((List.range n).map fun(j:Nat)=>AV.int (j:Int)) (j+1) (xp We I.m d tu ki (.bool true)) σ K) :
  eQ G (sG pm cd) (xp We I.m d tu ki (.bool true)) σ nO (C1 G (sG pm cd) (bk iL).1 (bk iL).2 (fun _=>True) ((List.range n).map fun(j:Nat)=>AV.int (j:Int)) (j+1) K) fun _ _ _=>False:=by
 subst ed
 (refine bC (Y.fD 5 _ rfl) fun pm5 cd5 D5=>?_)
 have B:=W.B
 have g5:=Y.gN 5 _ rfl
 have hdd:=hh.A.d
 have hm:=hh.M.m
 have fine:kx G D Q σ0 We N I J0 ns kE σ:=⟨S,J,L,hh.mono hk,hK⟩
 rw[show nO=[_,_] from rfl]
 refine bY<|b6<|bo<|eg<|cr<|aa rfl<|aJ<|au (eF rfl)<|bo<|eg<|cr<|bP rfl ‹_› rfl ‹_›<|ai rfl<|ai rfl<|ac<|aD ‹_› ?_
 refine bX (ip W Lg Y hh.M hh.A g) rfl rfl fun r σ' q=>?_
 (refine bD q fun u1 u2=>?_;clear q)
 subst u1 u2
 refine aJ<|au (eF rfl)<|cz<|au rfl<|aI<|bY<|cr<|bd rfl ‹_› iv<|aJ ?_
 cases hd:L.done
 ·refine au rfl<|aI<|bH ?_
  exact⟨_,Wk.refl _,k2 hd⟩
 ·(refine aR ?_ ?_;rfl;refine cY rfl<|bq<|aa rfl ?_;apply oj;assumption;assumption;exact rfl;apply ac;refine⟨ok fun _=>by(apply di;(assumption);(exact rfl)),?_⟩;dsimp only[bU,bV])
  refine cp (rU W hh.M (by rw[g.done];exact hd)) rfl rfl fun r σ2 q=>?_
  (refine bD q fun u1 u2=>?_;clear q)
  subst u1 u2
  refine ap<|fo<|bF rfl ‹_› rfl ‹_›<|ai rfl<|ai rfl<|ac<|aD ‹_› ?_
  refine cp (ip W Lg Y hh.M hh.A g) rfl rfl fun r σ2 q=>?_
  (refine bD q fun u1 u2=>?_;clear q)
  subst u1 u2
  refine aM<|aM ?_
  exact k1 _ fine
theorem qj {K:AFl→List (Str×AV)→List AO→Prop} (W:Wd G D gt bt) (Lg:Gl gt bt D) (V:Dec G Z gt) (Y:Law G Q gt) (hn:n≤20) (hkE:kE≤600)
  (k1:∀f lv σ',f = .next∨f = .ret (.bool true)→kx G D Q σ0 We N I J0 ns kE σ'→K f lv σ') :
  ∀ (e j:Nat) (σ:List AO) (S:MSt) (J:LI) (L:LSt) (kk:Nat) (tu ki he:AV),e+j=n→Hq G D Q σ We N I S J L ns kk→kk+5*e≤kE→Ag S L→L.done=false→L.out.length+e≤900→KeptBut (fQ We I J0) σ0 σ→J.d=J0.d→J.all=J0.all →
   qB G (sG pm cd) (bk iL).1 (bk iL).2 (fun _=>True) ((List.range n).map fun(j:Nat)=>AV.int (j:Int)) j (xp We I.m J0.d tu ki he) σ K:=fun e=>by
 (refine bC (Y.fD 0 _ rfl) fun pm0 cd0 D0=>?_)
 (refine b8 (Y.lD 0 _ _ rfl) fun pm8 D8=>?_)
 (refine b8 (Y.lD 1 _ _ rfl) fun pm9 D9=>?_)
 (refine b8 (Y.lD 2 _ _ rfl) fun pm10 D10=>?_)
 (refine bC (Y.fD 11 _ rfl) fun pm11 cd11 D11=>?_)
 (refine b8 (Y.lD 3 _ _ rfl) fun pm12 D12=>?_)
 (refine b8 (Y.lD 4 _ _ rfl) fun pm13 D13=>?_)
 have B:=W.B
 have g0:=Y.gN 0 _ rfl
 have g8:=Y.gN 8 _ rfl
 have g9:=Y.gN 9 _ rfl
 have g10:=Y.gN 10 _ rfl
 have g11:=Y.gN 11 _ rfl
 have g12:=Y.gN 12 _ rfl
 have g13:=Y.gN 13 _ rfl
 induction e with
 | zero =>
  intro j σ S J L kk tu ki he hj hh hk g hd ho hK ed ea
  refine ei (by simp;lia) trivial (k1 _ _ _ (.inl rfl) ⟨S,J,L,hh.mono ‹_›,hK⟩)
 | succ e ih =>
  intro j σ S J L kk tu ki he hj hh hk g hd ho hK ed ea
  have hx:((List.range n).map fun(j:Nat)=>AV.int (j:Int))[j]? = some (.int (j:Int)):=by rw[List.getElem?_map,List.getElem?_range (mI (Nat.le_of_eq hj) (Nat.zero_le e))];rfl
  have step:∀ (v:Int) (σ1:List AO),Hq G D Q σ1 We N I S J L ns (kk+1)→KeptBut (fQ We I J0) σ0 σ1→∀ (r:AV) (σ':List AO),DeedOk G D Q σ1 We N I J L ns (kk+5) r σ'→r = .bool true∧eQ G (sG pm cd) (xp We I.m J0.d (.int (j:Int)) (.int v) (.bool true)) σ' nO (C1 G (sG pm cd) (bk iL).1 (bk iL).2 (fun _=>True) ((List.range n).map fun(j:Nat)=>AV.int (j:Int)) (j+1) K) fun _ _ _=>False:=fun v σ1 hh1 hK1 r σ' q=>by
   (refine lZ q fun r1 S' J' L' h' g' d1 d2 d3 d4 d5 K'=>?_;clear q)
   have K2:KeptBut (fQ We I J0) σ0 σ':=hK1.trans K' (fun _ h=>h) (fun i h=>by rw[fQ,ea] at h;exact h)
   exact⟨r1,pe W Lg Y h' g' (mI hk (Nat.mul_le_mul_left 5 (Nat.zero_le e))) K2 (d1.trans ed) (fun lv q=>k1 _ _ _ (.inr rfl) q) (fun hd'=>ih (j+1) σ' S' J' L' (kk+5) _ _ _ (Nat.le_antisymm (lU (Nat.le_of_eq hj)) (lU (Nat.le_of_eq hj.symm))) h' (lU hk) g' hd' (mI d4 ho) K2 (d1.trans ed) (d2.trans ea))⟩
  rw[show bk iL=(_,_) from rfl] at step ⊢
  dsimp only at step ⊢
  refine eI hx trivial ?_
  refine aw rfl<|b5 rfl<|bF rfl ‹_› rfl ‹_›<|ai rfl<|az<|ac<|aD ‹_› ?_
  refine cp (cR (m:=6) W Lg Y hh.H (qc hk hkE (Nat.mul_le_mul_left 5 (Nat.zero_le e))) (by decide)) rfl rfl fun r σ1 q=>?_
  (refine bW q fun v r1 r2 r3 r4 r5=>?_;clear q)
  subst r1
  replace hh:=hh.drawn r4 r3
  replace hK:=hK.trans r4 (fun _ h=>h) (dp (J:=J0))
  have fin:=step v σ1 hh hK
  clear r3 r4 r5 step ih
  have hv:v=0∨v=1∨v=2∨v=3∨v=4∨v=5:=v6 r2
  clear r2
  rcases hv with rfl | rfl | rfl | rfl | rfl | rfl
  ·have c9:CtP G 10 σ1 (.base (Q.fn 8)) [.dyn We,.dyn I.m,.dyn J0.d] (DeedOk G D Q σ1 We N I J L ns (kk+1+4)) (fun _ _=>False):=by rw[← ed];exact rT W Lg Y hh g hd (qc hk hkE (Nat.mul_le_mul_left 5 (Nat.zero_le e)))
   refine cV rfl<|ay rfl<|aa rfl<|dE (fun _=>bL)<|aR (cg (by decide))<|b5 rfl<|bF rfl ‹_› rfl ‹_›<|ai rfl<|ai rfl<|ai rfl<|ac<|aD ‹_› ?_
   refine bj (CtP.imp c9 (fun r σ2 q=>?_) (fun i σ' q=>q.elim)) rfl (by decide)
   (refine bD (fin r σ2 (q.more (Nat.lt_succ_self _))) fun z1 z2=>?_)
   subst z1
   refine fx rfl<|bH ?_
   with_reducible apply ap
   exact z2
  ·have c9:CtP G 10 σ1 (.base (Q.fn 9)) [.dyn We,.dyn I.m,.dyn J0.d] (DeedOk G D Q σ1 We N I J L ns (kk+1+3)) (fun _ _=>False):=by rw[← ed];exact sj W Lg Y hh g hd (qc hk hkE (Nat.mul_le_mul_left 5 (Nat.zero_le e)))
   refine cV rfl<|ay rfl<|aa rfl<|dE (fun _=>bL)<|au (av (by decide))<|ay rfl<|aa rfl<|dE (fun _=>bL)<|aR (cg (by decide))<|b5 rfl<|bF rfl ‹_› rfl ‹_›<|ai rfl<|ai rfl<|ai rfl<|ac<|aD ‹_› ?_
   refine bj (CtP.imp c9 (fun r σ2 q=>?_) (fun i σ' q=>q.elim)) rfl (by decide)
   (refine bD (fin r σ2 (q.more (by simp))) fun z1 z2=>?_)
   subst z1
   refine fx rfl<|aI<|bH ?_
   with_reducible apply ap
   exact z2
  ·have c9:CtP G 10 σ1 (.base (Q.fn 10)) [.dyn We,.dyn I.m,.dyn J0.d] (DeedOk G D Q σ1 We N I J L ns (kk+1+3)) (fun _ _=>False):=by rw[← ed];exact y2 W Lg Y hh g hd (qc hk hkE (Nat.mul_le_mul_left 5 (Nat.zero_le e)))
   refine cV rfl<|ay rfl<|aa rfl<|dE (fun _=>bL)<|au (av (by decide))<|ay rfl<|aa rfl<|dE (fun _=>bL)<|au (av (by decide))<|ay rfl<|aa rfl<|dE (fun _=>bL)<|aR (cg (by decide))<|b5 rfl<|bF rfl ‹_› rfl ‹_›<|ai rfl<|ai rfl<|ai rfl<|ac<|aD ‹_› ?_
   refine bj (CtP.imp c9 (fun r σ2 q=>?_) (fun i σ' q=>q.elim)) rfl (by decide)
   (refine bD (fin r σ2 (q.more (by simp))) fun z1 z2=>?_)
   subst z1
   refine fx rfl<|aI<|aI<|bH ?_
   with_reducible apply ap
   exact z2
  ·have c9:CtP G 10 σ1 (.base (Q.fn 11)) [.dyn We,.dyn I.m,.dyn J0.d] (DeedOk G D Q σ1 We N I J L ns (kk+1+2)) (fun _ _=>False):=by rw[← ed];exact rZ W Lg Y hh g hd (qc hk hkE (Nat.mul_le_mul_left 5 (Nat.zero_le e)))
   refine cV rfl<|ay rfl<|aa rfl<|dE (fun _=>bL)<|au (av (by decide))<|ay rfl<|aa rfl<|dE (fun _=>bL)<|au (av (by decide))<|ay rfl<|aa rfl<|dE (fun _=>bL)<|au (av (by decide))<|ay rfl<|aa rfl<|dE (fun _=>bL)<|aR (cg (by decide))<|b5 rfl<|bF rfl ‹_› rfl ‹_›<|ai rfl<|ai rfl<|ai rfl<|ac<|aD ‹_› ?_
   refine bj (CtP.imp c9 (fun r σ2 q=>?_) (fun i σ' q=>q.elim)) rfl (by decide)
   (refine bD (fin r σ2 (q.more (by simp))) fun z1 z2=>?_)
   subst z1
   refine fx rfl<|aI<|aI<|aI<|bH ?_
   with_reducible apply ap
   exact z2
  ·have c9:CtP G 10 σ1 (.base (Q.fn 12)) [.dyn We,.dyn I.m,.dyn J0.d] (DeedOk G D Q σ1 We N I J L ns (kk+1+2)) (fun _ _=>False):=by rw[← ed];exact sK W Lg V Y hh g hd (qc hk hkE (Nat.mul_le_mul_left 5 (Nat.zero_le e))) (by lia)
   refine cV rfl<|ay rfl<|aa rfl<|dE (fun _=>bL)<|au (av (by decide))<|ay rfl<|aa rfl<|dE (fun _=>bL)<|au (av (by decide))<|ay rfl<|aa rfl<|dE (fun _=>bL)<|au (av (by decide))<|ay rfl<|aa rfl<|dE (fun _=>bL)<|au (av (by decide))<|ay rfl<|aa rfl<|dE (fun _=>bL)<|aR (cg (by decide))<|b5 rfl<|bF rfl ‹_› rfl ‹_›<|ai rfl<|ai rfl<|ai rfl<|ac<|aD ‹_› ?_
   refine bj (CtP.imp c9 (fun r σ2 q=>?_) (fun i σ' q=>q.elim)) rfl (by decide)
   (refine bD (fin r σ2 (q.more (by simp))) fun z1 z2=>?_)
   subst z1
   refine fx rfl<|aI<|aI<|aI<|aI<|bH ?_
   with_reducible apply ap
   exact z2
  ·have c9:CtP G 10 σ1 (.base (Q.fn 13)) [.dyn We,.dyn I.m,.dyn J0.d] (DeedOk G D Q σ1 We N I J L ns (kk+1+2)) (fun _ _=>False):=by rw[← ed];exact sr W Lg Y hh g hd (qc hk hkE (Nat.mul_le_mul_left 5 (Nat.zero_le e)))
   refine cV rfl<|ay rfl<|aa rfl<|dE (fun _=>bL)<|au (av (by decide))<|ay rfl<|aa rfl<|dE (fun _=>bL)<|au (av (by decide))<|ay rfl<|aa rfl<|dE (fun _=>bL)<|au (av (by decide))<|ay rfl<|aa rfl<|dE (fun _=>bL)<|au (av (by decide))<|ay rfl<|aa rfl<|dE (fun _=>bL)<|au (av (by decide))<|b5 rfl<|bF rfl ‹_› rfl ‹_›<|ai rfl<|ai rfl<|ai rfl<|ac<|aD ‹_› ?_
   refine bj (CtP.imp c9 (fun r σ2 q=>?_) (fun i σ' q=>q.elim)) rfl (by decide)
   (refine bD (fin r σ2 (q.more (by simp))) fun z1 z2=>?_)
   subst z1
   refine fx rfl<|aI<|aI<|aI<|aI<|bH ?_
   with_reducible apply ap
   exact z2
theorem uS (W:Wd G D gt bt) (Lg:Gl gt bt D) (V:Dec G Z gt) (Y:Law G Q gt) (h:Hq G D Q σ We N I S J L ns k) (g:Ag S L) (hd:L.done=false) (hk:k+70≤600) (ho:L.out.length≤800) :
  CtP G 12 σ (.base (Q.fn 14)) [.dyn We,.dyn I.m,.dyn J.d] (fun r σ'=>r = .bool true∧kx G D Q σ We N I J ns (k+70) σ') (fun _ _=>False):=by
 (refine bC (Y.fD 14 _ rfl) fun pm cd DD=>?_)
 (refine bC (Y.fD 0 _ rfl) fun pm0 cd0 D0=>?_)
 have B:=W.B
 have g0:=Y.gN 0 _ rfl
 have gr:=Lg.range
 refine ch ["well", "machine", "state"] A4 A5 ["turn", "kind", "held"] 11 DD (by kernel_rfl) rfl (fW fun _ _ _=>rfl) rfl (by(simp only[lxp,lxq,lxr,lxs,lxt,bV,bU];rfl)) ?_
 (apply aW)
 refine eJ rfl ?_
 refine cb rfl ‹_› rfl ‹_›<|af<|aG<|bf<|bP rfl ‹_› rfl ‹_›<|ai rfl<|az<|ac<|aD ‹_› ?_
 refine bX (cR (m:=8) W Lg Y h.H (q1 70 600 1 900 hk rfl) (by decide)) rfl rfl fun r σ1 q=>?_
 (refine bW q fun v r1 r2 r3 r4 r5=>?_;clear q)
 subst r1
 have hh:=h.drawn r4 r3
 have hK:KeptBut (fQ We I J) σ σ1:=KeptBut.trans (.refl _) r4 (fun _ h=>h) dp
 clear r3 r4 r5
 refine o2 (fun _=>bh)<|ac<|aT<|fw ?_
 refine⟨_,_,fun A hh=>f7 hh (by exact aj rfl rfl) (Int.lt_of_lt_of_le (Int.add_lt_add_left r2.2 _) (by decide)) (Int.le_of_lt (Int.lt_of_lt_of_le (by decide) (Int.add_le_add_left r2.1 _))),?_⟩
 refine qj (n:=(6+v).toNat) (kE:=k+70) (σ0:=σ) (J0:=J) W Lg V Y (by lia) ‹_› (fun f lv σ' e q=>?_) (6+v).toNat 0 _ S J L (k+1) .unk .unk .unk rfl hh.app (Int.ofNat_le.mp (nC (ny 5 (Int.le_of_eq (Int.toNat_of_nonneg (jk r2.1:0≤6+v))) rfl) (ny 5 r2.2 rfl) (by simp +arith only[Int.natCast_add,Int.natCast_mul,Int.cast_ofNat_Int]))) g hd (Int.ofNat_le.mp (oZ (Int.ofNat_le.mpr ho) (Int.le_of_eq (Int.toNat_of_nonneg (jk r2.1:0≤6+v))) r2.2 (by simp +arith only[Int.natCast_add,Int.cast_ofNat_Int]))) hK.app rfl rfl
 rcases e with rfl | rfl
 ·refine ap<|bE<|et<|aM ?_
  exact⟨rfl,q⟩
 ·(apply aM)
  exact⟨rfl,q⟩
end
section
set_option maxHeartbeats 8000000
variable {G:Gd} {D:Ad} {Z:DAd} {Q:LAd} {gt bt:List (Str×AV)} {σ σ':List AO} {C:Cx} {lv:List (Str×AV)} {I:MI} {S:MSt} {J:LI} {L:LSt} {We N k k':Nat} {ns:List Int}
noncomputable abbrev At:List Str:=["machine_base", "octets", "size", "entry", "given", "state"]
noncomputable abbrev Au:List Str:=["len"]
noncomputable def yu (b size e:Int) (os inp:List Int):LSt:=⟨b,os++List.replicate (size.toNat - os.length) 0,(List.replicate 32 (0:Int)).set 2 ((b+size) / 16*16),e,[],inp,false⟩
theorem oE {os inp:List Int} {b size e:Int} (W:Wd G D gt bt) (Lg:Gl gt bt D) (Y:Law G Q gt) (hO:σ[O]? = some (.list (os.map .int))) (hV:σ[Vi]? = some (.list (inp.map .int))) (hs:os.length≤size) (hs2:size≤1000) (hb:0≤b∧b≤4294967296) :
  CtP G 2 σ (.base (Q.fn 15)) [.int b,.dyn O,.int size,.int e,.dyn Vi] (fun r σ'=>∃J,r = .dyn J.d∧LAt G σ' J (yu b size e os inp)∧J.ii=Vi∧Keep σ σ'∧∀j∈J.all,σ.length≤j) (fun _ _=>False):=by
 (refine bC (Y.fD 15 _ rfl) fun pm cd DD=>?_)
 have B:=W.B
 have gl:=Lg.len
 refine ch ["machine_base", "octets", "size", "entry", "given"] At Au ["state"] 1 DD (by kernel_rfl) rfl (AL fun _ _ _ _ _=>rfl) rfl (by(simp only[lxp,lxq,lxr,lxs,lxt,bV,bU];rfl)) ?_
 refine aA rfl ?_
 refine ty ?_
 refine gw ?_
 refine aa rfl ?_
 refine gw ?_
 (refine aX rfl<|aG<|aP<|az<|ac<|aL rfl<|aX rfl<|cb rfl ‹_› rfl ‹_›<|ai rfl<|ac<|aB ?_;apply c7;(apply ad;apply ad;assumption);(simp only[lxC,lxN,lxA,lxM,lxS,List.length_replicate];exact Int.lt_of_le_of_lt hs (Int.lt_of_le_of_lt hs2 (by decide)));refine o2 (fun _=>cC) ?_;apply oh;(apply aj;simp only[lxS,lxA,lxC,lxN,lxY,lxZ,Nat.reduceAdd];simp only[bS,bT,Int.reduceToNat,lxg,lxh];rfl);(simp only[lxC,lxN,lxA,lxM,lxS,List.length_replicate];exact jk hs);exact nC hs2 (Int.natCast_nonneg ((List.map AV.int os).length));apply qS;(apply ad;apply ad;apply ad;assumption);(apply aj;simp only[lxS,lxA,lxC,lxN,lxY,lxZ,Nat.reduceAdd];simp only[bS,bT,Int.reduceToNat,lxg,lxh];rfl);(simp only[lxC,lxN,lxA,lxM,lxS,List.length_replicate];exact Int.ofNat_le.mp (nC (Int.le_of_eq (Int.toNat_of_nonneg (jk hs:0≤size - ↑os.length))) hs2 (by simp +arith only[Int.natCast_add,Int.cast_ofNat_Int]))))
 refine gw ?_
 (refine aG<|aP<|az<|ac<|aL rfl<|bf ?_;apply oh;(apply aj;simp only[lxS,lxA,lxC,lxN,lxY,lxZ,Nat.reduceAdd];simp only[bS,bT,Int.reduceToNat,lxg,lxh];rfl);decide;decide)
 refine gw ?_
 refine aa rfl ?_
 refine tv ?_
 refine⟨by simp,by(apply ad;apply ad;apply ad;apply ad;apply ad;apply aj;simp only[lxS,lxA,lxC,lxN,lxY,lxZ,Nat.reduceAdd];simp only[bS,bT,Int.reduceToNat,lxg,lxh]),?_⟩
 rw[show (size - ((os.map AV.int).length:Int)).toNat=size.toNat - os.length by rw[List.length_map];simp]
 (refine b8 (⟨_,rfl⟩:∃mm,mm=(σ++[AO.sdict G.w []]++[AO.list [AV.int 0]]++[AO.list (List.map AV.int (List.replicate (size.toNat - os.length) 0))]).length) fun mm hmm=>?_)
 (refine b8 (⟨_,rfl⟩:∃rr,rr=(σ++[AO.sdict G.w []]++[AO.list [AV.int 0]]++[AO.list (List.map AV.int (List.replicate (size.toNat - os.length) 0))]++[AO.list (List.map AV.int (os++List.replicate (size.toNat - os.length) 0))]++[AO.list [AV.int 0]]).length) fun rr hrr=>?_)
 rw[← hmm,← hrr]
 (refine b8 (⟨_,rfl⟩:∃σa,σa=((σ++[AO.sdict G.w []]++[AO.list [AV.int 0]]++[AO.list (List.map AV.int (List.replicate (size.toNat - os.length) 0))]++[AO.list (List.map AV.int (os++List.replicate (size.toNat - os.length) 0))]++[AO.list [AV.int 0]]++[AO.list (List.map AV.int (List.replicate (Int.toNat 32) 0))]).set σ.length (AO.sdict G.w (sts [] [(Str.ofString "base",AV.int b),(Str.ofString "memory",AV.dyn mm),(Str.ofString "registers",AV.dyn rr),(Str.ofString "pc",AV.int e)])))) fun σa hB=>?_)
 rw[← hB]
 have q1:σa[σ.length]? = some (.sdict G.w [("base",.int b),("memory",.dyn mm),("registers",.dyn rr),("pc",.int e)]):=by
  rw[hB]
  exact aU (o := .sdict G.w []) (by(apply ad;apply ad;apply ad;apply ad;apply ad;apply aj;simp only[lxS,lxA,lxC,lxN,lxY,lxZ,Nat.reduceAdd];simp only[bS,bT,Int.reduceToNat,lxg,lxh]))
 have q2:σa[mm]? = some (.list ((os++List.replicate (size.toNat - os.length) 0).map .int)):=by
  rw[hB,hmm]
  exact ah (by simp) (ad (ad (aj rfl rfl)))
 have q3:σa[rr]? = some (.list ((List.replicate 32 (0:Int)).map .int)):=by
  rw[hB,hrr]
  exact ah (by simp) (aj rfl rfl)
 have q4:Keep σ σa:=fun i o h=>by
  have:=am h
  rw[hB]
  exact ah (Nat.ne_of_gt this) (ad (ad (ad (ad (ad (ad h))))))
 have q5:σ.length < mm∧mm < rr:=by
  rw[hmm,hrr];simp
 clear hB hmm hrr
 have q6:=am q3
 have hV':=q4 _ _ hV
 have q7:=am hV
 generalize hdl:σ.length=d at q1 q5 q7 ⊢
 (refine fx rfl<|aA rfl<|aG<|aG<|aX rfl<|aa rfl<|o2 (fun _=>bh)<|i2 (fun _=>qy (by decide) (by decide))<|i2 (fun _=>fO (cF (by decide) (by decide)))<|ck<|bd rfl ‹_› (by simp only[lk,st,List.find?_cons,List.find?_nil,Option.map_some,Option.map_none,decide_true,decide_false];rfl)<|bf<|db ‹_› (by decide) (by decide) (by decide)<|ap<|aA rfl<|aP<|ac<|aL rfl<|ck<|aa rfl<|cB ?_;apply eK;(apply ad;apply ah;lia;assumption);(simp only[lxC,lxN,lxA,lxM,lxS,List.length_replicate];decide);apply aK;(simp only[bK,aE,bS,bT,cK,lxa,bV,bU,lxA,lxM,lxS,lxC,lxN,lxY,lxZ,Nat.reduceAdd,put,aN,String.reduceEq,reduceIte,List.set_set];rfl);dsimp only[bS,bT,cK,bV,bU];refine aA rfl<|aa rfl<|ck<|aa rfl<|cB ?_)
 have e1:∀o:AV,st [(Str.ofString "base",AV.int b),(Str.ofString "memory",AV.dyn mm),(Str.ofString "registers",AV.dyn rr),(Str.ofString "pc",AV.int e)] (Str.ofString "output") o=[(Str.ofString "base",AV.int b),(Str.ofString "memory",AV.dyn mm),(Str.ofString "registers",AV.dyn rr),(Str.ofString "pc",AV.int e),(Str.ofString "output",o)]:=fun _=>rfl
 rw[e1]
 (apply eK;(apply aU;apply ad;apply ah;lia;assumption);(simp only[lxC,lxN,lxA,lxM,lxS,List.length_replicate];decide);apply aK;(simp only[bK,aE,bS,bT,cK,lxa,bV,bU,lxA,lxM,lxS,lxC,lxN,lxY,lxZ,Nat.reduceAdd,put,aN,String.reduceEq,reduceIte,List.set_set];rfl);dsimp only[bS,bT,cK,bV,bU];refine aA rfl<|et<|ck<|aa rfl<|cB ?_)
 have e2:∀o p:AV,st [(Str.ofString "base",AV.int b),(Str.ofString "memory",AV.dyn mm),(Str.ofString "registers",AV.dyn rr),(Str.ofString "pc",AV.int e),(Str.ofString "output",o)] (Str.ofString "input") p=[(Str.ofString "base",AV.int b),(Str.ofString "memory",AV.dyn mm),(Str.ofString "registers",AV.dyn rr),(Str.ofString "pc",AV.int e),(Str.ofString "output",o),(Str.ofString "input",p)]:=fun _ _=>rfl
 rw[e2]
 (apply eK;(apply aU;apply ad;apply ah;lia;assumption);(simp only[lxC,lxN,lxA,lxM,lxS,List.length_replicate];decide);apply aK;(simp only[bK,aE,bS,bT,cK,lxa,bV,bU,lxA,lxM,lxS,lxC,lxN,lxY,lxZ,Nat.reduceAdd,put,aN,String.reduceEq,reduceIte,List.set_set];rfl);dsimp only[bS,bT,cK,bV,bU];refine bE<|aa rfl<|aM ?_)
 have e3:∀o p q:AV,st [(Str.ofString "base",AV.int b),(Str.ofString "memory",AV.dyn mm),(Str.ofString "registers",AV.dyn rr),(Str.ofString "pc",AV.int e),(Str.ofString "output",o),(Str.ofString "input",p)] (Str.ofString "done") q=[(Str.ofString "base",AV.int b),(Str.ofString "memory",AV.dyn mm),(Str.ofString "registers",AV.dyn rr),(Str.ofString "pc",AV.int e),(Str.ofString "output",o),(Str.ofString "input",p),(Str.ofString "done",q)]:=fun _ _ _=>rfl
 rw[e3]
 have n1:d≠mm:=Nat.ne_of_lt q5.1
 have n2:d≠rr:=by lia
 have n3:rr≠mm:=Nat.ne_of_gt q5.2
 have n4:d≠σa.length:=Nat.ne_of_lt (qc q6 q5.1 q5.2)
 have n5:d≠Vi:=Nat.ne_of_gt q7
 have n6:rr≠Vi:=Nat.ne_of_gt (qc q7 q5.2 q5.1)
 refine⟨⟨d,mm,rr,σa.length,Vi⟩,rfl,⟨aU (ad (ah n2.symm q1)),ah n1 (ad (ah n3 q2)),ah n2 (ad (aU q3)),ah n4 (aj (by simp) rfl),ah n5 (ad (ah n6 hV')),?_,?_,?_,?_,?_,?_⟩,rfl,fun i o h=>?_,fun j hj=>?_⟩
 ·show mm≠rr;exact Nat.ne_of_lt q5.2
 ·show mm≠σa.length;lia
 ·show rr≠σa.length;exact Nat.ne_of_lt q6
 ·show mm≠Vi;lia
 ·show rr≠Vi;assumption
 ·show σa.length≠Vi;exact Nat.ne_of_gt (qc q7 q6 (Nat.add_le_add q5.1 q5.2))
 ·have:=am h
  exact ah (by lia) (ad (ah (Nat.ne_of_gt (qc this (Nat.le_of_eq hdl) (Nat.add_le_add q5.2 q5.1))) (q4 _ _ h)))
 ·simp only[LI.all,lxm,lxn,or_false] at hj
  lia
end
section
set_option maxHeartbeats 8000000
variable {G:Gd} {D:Ad} {Z:DAd} {Q:LAd} {gt bt:List (Str×AV)} {σ σ':List AO} {C:Cx} {lv:List (Str×AV)} {I:MI} {S:MSt} {J:LI} {L:LSt} {We N k k':Nat} {ns:List Int}
noncomputable abbrev An:List Str:=["state", "calls", "most", "turn", "due"]
noncomputable abbrev Ao:List Str:=["range", "_law_all", "_law_faults", "_law_outer"]
noncomputable abbrev B5 (pm:Value) (cd:Addr):Cx:=iN (iJ 16 "_law_walk" pm cd) An Ao 2
noncomputable def tU:Stmt:=(dG (iJ 16 "_law_walk" .none 0)).getD 0 kg
structure WkAt (G:Gd) (σ0 σ:List AO) (J0 J:LI) (L:LSt):Prop where
 A:LAt G σ J L
 d:J.d=J0.d
 all:J.all=J0.all
 ii:J.ii=J0.ii∨σ0.length≤J.ii
 K:KeptBut J0.all σ0 σ
 len:σ0.length≤σ.length
theorem WkAt.app (a:WkAt G σ0 σ J0 J L):WkAt G σ0 (σ++l) J0 J L:=⟨a.A.keep .app,a.d,a.all,a.ii,a.K.app,by have:=a.len;simp;exact q2 0 0 0 0 0 0 this (Nat.le_add_right _ _) rfl⟩
theorem sA (h:Cd L c r t):bc L L.pc 4 4=if ¬ (L.base≤L.pc∧L.pc+4≤L.base+L.mem.length) then [("memory" : Str)] else []:=by
 have hp:=h.pc
 have ha:=h.al
 by_cases q:L.base≤L.pc∧L.pc+4≤L.base+L.mem.length
 ·rw[if_neg (fun z=>z q),ey (by lia) q]
 ·rw[if_pos q]
  unfold bc
  rw[if_neg (by lia),if_pos (by omega)]
  rfl
theorem rR {K:AFl→List (Str×AV)→List AO→Prop} (W:Wd G D gt bt) (Lg:Gl gt bt D) (Y:Law G Q gt) (hm:most≤20) (hr:r≤20)
  (k1:∀lv i w v σ' J' L',cJ c most L0=((w,v),L')→σ'[i]? = some (.list [.str w,.int v])→σ0.length≤i→WkAt G σ0 σ' J0 J' L'→K (.ret (.dyn i)) lv σ')
  (k2:∀tu du σ' J' L',cJ c most L0=cJ c 0 L'→L'.regs.length=32→WkAt G σ0 σ' J0 J' L'→K .next [("state",.dyn J0.d),("calls",.int (c:Int)),("most",.int (most:Int)),("turn",tu),("due",du)] σ') :
  ∀ (e j:Nat) (σ:List AO) (J:LI) (L:LSt) (tu du:AV),e+j=most→WkAt G σ0 σ J0 J L→cJ c most L0=cJ c e L→L.regs.length=32→Cd L c r j→L.out.length+e≤1000→L.inp.length≤1000 →
   qB G (B5 pm cd) (bk tU).1 (bk tU).2 (fun _=>True) ((List.range most).map fun(j:Nat)=>AV.int (j:Int)) j [("state",.dyn J0.d),("calls",.int (c:Int)),("most",.int (most:Int)),("turn",tu),("due",du)] σ K:=fun e=>by
 obtain⟨pm2,cd2,D2⟩:=Y.fD 2 _ rfl
 obtain⟨pm4,cd4,D4⟩:=Y.fD 4 _ rfl
 have B:=W.B
 have g2:=Y.gN 2 _ rfl
 have g4:=Y.gN 4 _ rfl
 have ga:=Y.gAll
 induction e with
 | zero =>
  intro j σ J L tu du hj a hw h32 cd ho hi
  exact ei (by simp;lia) trivial (k2 _ _ _ _ _ hw h32 a)
 | succ e ih =>
  intro j σ J L tu du hj a hw h32 hc ho hi
  have hx:((List.range most).map fun(j:Nat)=>AV.int (j:Int))[j]? = some (.int (j:Int)):=by rw[List.getElem?_map,List.getElem?_range (mI (Nat.le_of_eq hj) (Nat.zero_le e))];rfl
  have hd:=a.A.d
  rw[a.d] at hd
  have hrr:=a.A.rr
  have e10:(L.regs.map AV.int)[(10:Int).toNat]? = some (.int (L.regs.getD 10 0)):=jF h32 10 (by decide)
  have hc5:=hc.c5
  have hml:L.mem.length≤1000000:=by rw[hc.len];exact mI (Nat.mul_le_mul_left 4 hc5) hr
  have ef:=sA hc
  rw[cJ] at hw
  rw[show bk tU=(_,_) from rfl] at ih ⊢
  dsimp only at ih ⊢
  refine eI hx trivial ?_
  have cf:CtP G 1 σ (.base (Q.fn 2)) [.dyn J0.d,.int L.pc,.int 4,.int 4] (fun r σ'=>r = .dyn σ.length∧σ'=σ++[.list ((bc L L.pc 4 4).map .str)]) (fun _ _=>False):=by rw[← a.d];exact ix W Lg Y a.A (by decide) hml
  have len0:=a.len
  refine aw rfl<|bY<|cr<|bd rfl ‹_› iv<|aJ ?_
  cases hD:L.done
  ·rw[if_neg (by rw[hD];decide)] at hw
   refine au rfl<|aI<|ay rfl<|bP rfl ‹_› rfl ‹_›<|ai rfl<|af<|bd rfl ‹_› jg<|az<|az<|ac<|aD ‹_› ?_
   refine jV (CtP.imp cf (fun r σ1 q=>?_) (fun i σ' q=>q.elim)) rfl (by decide)
   obtain⟨u1,u2⟩:=q
   subst u1 u2
   clear cf
   rw[ef]
   by_cases q:L.base≤L.pc∧L.pc+4≤L.base+L.mem.length
   ·rw[if_neg (fun z=>z q)] at hw ⊢
    refine aP<|ac<|aL rfl ?_
    refine f9 (r:=true) rfl (by(apply ad;apply aj;simp only[lxS,lxA,lxC,lxN,lxY,lxZ,Nat.reduceAdd];simp only[bS,bT,Int.reduceToNat,lxg,lxh];rfl)) (by(apply aj;simp only[lxS,lxA,lxC,lxN,lxY,lxZ,Nat.reduceAdd];simp only[bS,bT,Int.reduceToNat,lxg,lxh];rfl)) (by exact .nil) ?_
    (refine aJ<|au (eF rfl)<|bH ?_;apply aK;(simp only[bK,aE,bS,bT,cK,lxa,bV,bU,lxA,lxM,lxS,lxC,lxN,lxY,lxZ,Nat.reduceAdd,put,aN,String.reduceEq,reduceIte,List.set_set];rfl);dsimp only[bS,bT,cK,bV,bU];refine ay rfl<|bd rfl (ad ‹_›) jg<|aG<|bd rfl (ad ‹_›) cO<|aG<|bf<|aa rfl<|o2 (fun _=>fO (cF (Int.lt_of_lt_of_le (by decide) (Int.natCast_nonneg _)) (Int.lt_of_le_of_lt (Int.ofNat_le.mpr hc5) (by decide))))<|o2 (fun _=>bh)<|eL (fun _=>Br) ?_)
    have a2:=a.app (l:=[AO.list (([]:List Str).map AV.str),AO.list []])
    have iE:=a2.len
    generalize σ++[AO.list (([]:List Str).map AV.str),AO.list []]=σ2 at a2 iE ⊢
    have hd2:=a2.A.d
    rw[a2.d] at hd2
    by_cases q2:L.base+4*(c:Int)≤L.pc
    ·rw[if_pos q2] at hw
     refine aR (decide_eq_true ‹_›)<|bE<|aP<|bx<|af<|bd rfl ‹_› jg<|ac<|And.intro (bZ (by(simp only[lxC,lxN,lxA,lxM,lxS,List.length_replicate];decide)))<|aM<|aM ?_
     exact k1 _ _ _ _ _ J L hw (aj rfl rfl) iE a2.app
    ·rw[if_neg q2] at hw
     have co:=oQ W Y a2.A h32 (by lia) (q1 0 1000 0 1000000 hi rfl)
     rw[a2.d] at co
     refine au (decide_eq_false ‹_›)<|aI<|b5 rfl<|bF rfl ‹_› rfl ‹_›<|ai rfl<|ac<|aD ‹_› ?_
     refine bj (CtP.imp co (fun r σ3 q=>?_) (fun i σ' q=>q.elim)) rfl (by decide)
     clear co
     obtain⟨i,r1,li,q⟩:=q
     subst r1
     rcases q with⟨L1,J1,e1,hl,A1,ja,jd,ji,K1⟩ | ⟨e1,hl,K1⟩
     ·rw[e1] at hw
      obtain⟨oq1,oq2,oq3,oq4,oq5⟩:=fB e1
      obtain⟨oq6,oq7⟩:=j1 e1 hD
      have hd3:=A1.d
      rw[jd] at hd3
      refine cV rfl<|ay rfl<|aa rfl<|aP<|ac<|aL rfl ?_
      refine f9 (r:=true) rfl (by(apply ad;assumption)) (by(apply aj;simp only[lxS,lxA,lxC,lxN,lxY,lxZ,Nat.reduceAdd];simp only[bS,bT,Int.reduceToNat,lxg,lxh];rfl)) (by exact .nil) ?_
      refine aJ<|au (eF rfl)<|aI<|aA rfl<|aG<|bd rfl (ad ‹_›) jg<|i2 (fun _=>bh)<|ck<|aa rfl<|cB<|eK (ad ‹_›) (by simp only[lxC,lxN,lxA,lxM,lxS,List.length_replicate];decide)<|ap<|bH ?_
      have A':=(A1.keep (σ':=σ3++[AO.list []]) .app).setD (L':={ L1 with pc:=L1.pc+4 }) yt rfl rfl rfl rfl
      rw[jd] at A'
      rw[a2.all] at K1
      have hpc:=hc.pc
      have hal:=hc.al
      have l3:=am hd3
      refine⟨_,Wk.refl _,ih (j+1) _ J1 _ _ _ (Nat.le_antisymm (lU (Nat.le_of_eq hj)) (lU (Nat.le_of_eq hj.symm))) ⟨A',jd,ja.trans a.all,?_,.set (by simp) (a2.K.trans K1 (fun _ h=>h) (fun _ h=>h)).app,?_⟩ hw (oq5.trans h32) ⟨oq2.trans hc.mem,hc5,?_,?_,?_⟩ ?_ ?_⟩
      ·rcases ji with ji | ji
       ·rw[ji];exact a.ii
       ·exact .inr (by lia)
      ·have:=am hl
       simp;exact qc iE li this
      ·show L1.pc+4=L1.base+4*((j+1:Nat):Int)
       rw[oq1,oq3];exact Int.le_antisymm (jk (Int.le_of_eq hpc) (by simp +arith only[Int.natCast_add,Int.cast_ofNat_Int])) (jk (Int.le_of_eq hpc.symm) (by simp +arith only[Int.natCast_add,Int.cast_ofNat_Int]))
      ·lia
      ·show L1.base % 4=0
       rw[oq1];exact hal
      ·show L1.out.length+e≤1000
       exact mI oq4 ho
      ·show L1.inp.length≤1000
       lia
     ·rw[e1] at hw
      have a3:WkAt G σ0 σ3 J0 J L:=⟨a2.A.keep K1,a2.d,a2.all,a2.ii,a2.K.keep K1,by have:=am (K1 _ _ hd2);have:=am hl;exact qc this iE li⟩
      have hd3:=a3.A.d
      rw[a3.d] at hd3
      have fW:=a3.len
      refine cV rfl<|ay rfl<|aa rfl<|aP<|ac<|aL rfl ?_
      refine eS rfl (by(apply ad;assumption)) (by(apply aj;simp only[lxS,lxA,lxC,lxN,lxY,lxZ,Nat.reduceAdd];simp only[bS,bT,Int.reduceToNat,lxg,lxh];rfl)) (by simp) ?_
      refine aJ<|aR rfl<|bE<|aP<|af<|bg<|aa rfl<|bf<|bu (ad ‹_›) (by decide) (by decide) (by simp only[bS,bT,Int.reduceToNat,lxg,lxh];rfl) (fun _ _=>by with_unfolding_all rfl)<|af<|bd rfl (ad ‹_›) jg<|ac<|And.intro (bZ (by(simp only[lxC,lxN,lxA,lxM,lxS,List.length_replicate];decide)))<|aM<|aM ?_
      exact k1 _ _ _ _ _ J L hw (aj rfl rfl) (by simp;exact q1 0 0 0 1 fW rfl) a3.app.app
   ·rw[if_pos q] at hw ⊢
    refine aP<|ac<|aL rfl ?_
    refine eS rfl (by(apply ad;apply aj;simp only[lxS,lxA,lxC,lxN,lxY,lxZ,Nat.reduceAdd];simp only[bS,bT,Int.reduceToNat,lxg,lxh];rfl)) (by(apply aj;simp only[lxS,lxA,lxC,lxN,lxY,lxZ,Nat.reduceAdd];simp only[bS,bT,Int.reduceToNat,lxg,lxh];rfl)) (by simp) ?_
    (refine aJ<|aR rfl<|bE<|aP<|bx<|af<|bg<|aa rfl<|cB ?_;apply jy;(apply ad;apply ad;assumption);exact jg;(intro _ _);with_unfolding_all rfl;refine ac<|And.intro (bZ (by(simp only[lxC,lxN,lxA,lxM,lxS,List.length_replicate];decide)))<|aM<|aM ?_)
    exact k1 _ _ _ _ _ J L hw (aj rfl rfl) (by simp;exact q1 0 0 0 2 len0 rfl) a.app.app.app
  ·rw[if_pos hD] at hw
   refine aR rfl<|bE<|aP<|bx<|af<|aG<|aG<|aG<|bg<|bd rfl ‹_› cm<|bf<|bu ‹_› (by decide) (by decide) ‹_› (fun _ _=>by with_unfolding_all rfl)<|i2 (fun _=>bh)<|ax ‹_› rfl ‹_›<|o2 (fun _=>cw (by decide))<|i2 (fun _=>cC)<|ac<|And.intro (bZ (by(simp only[lxC,lxN,lxA,lxM,lxS,List.length_replicate];decide)))<|aM<|aM ?_
   exact k1 _ _ _ _ _ J L hw (aj rfl rfl) len0 a.app
theorem wQ {c r most:Nat} (W:Wd G D gt bt) (Lg:Gl gt bt D) (Y:Law G Q gt) (A:LAt G σ J L) (h32:L.regs.length=32) (hc:Cd L c r 0) (hm:most≤20) (hr:r≤20) (ho:L.out.length≤900) (hi:L.inp.length≤1000) :
  CtP G 3 σ (.base (Q.fn 16)) [.dyn J.d,.int (c:Int),.int (most:Int)] (fun x σ'=>∃i w v J' L',x = .dyn i∧cJ c most L=((w,v),L')∧σ'[i]? = some (.list [.str w,.int v])∧σ.length≤i∧WkAt G σ σ' J J' L') (fun _ _=>False):=by
 (refine bC (Y.fD 16 _ rfl) fun pm cd DD=>?_)
 have B:=W.B
 have ga:=Y.gAll
 have gr:=Lg.range
 refine ch ["state", "calls", "most"] An Ao ["turn", "due"] 2 DD (by kernel_rfl) rfl (fW fun _ _ _=>rfl) rfl (by(simp only[lxp,lxq,lxr,lxs,lxt,bV,bU];rfl)) ?_
 (apply aW)
 refine eJ rfl ?_
 refine cb rfl ‹_› rfl ‹_›<|ai rfl<|ac<|aT<|fw ?_
 refine⟨_,_,fun A hh=>f7 hh (by exact aj rfl rfl) (by exact Int.lt_of_le_of_lt (Int.ofNat_le.mpr hm) (by decide)) (by simp),?_⟩
 rw[show ((most:Int)).toNat=most by simp]
 have a0:WkAt G σ (σ++[AO.rng 0 (most:Int)]) J J L:=⟨A.keep .app,rfl,rfl,.inl rfl,.app (.refl _),by simp⟩
 refine rR (L0:=L) W Lg Y hm hr (fun lv i w v σ' J' L' e1 e2 e3 e4=>?_) (fun tu du σ' J' L' e1 l32 e2=>?_) most 0 _ J L .unk .unk (by simp) a0 rfl h32 hc (mI ho hm) hi
 ·(apply aM)
  exact⟨i,w,v,J',L',rfl,e1,e2,e3,e4⟩
 ·have hd:=e2.A.d
  rw[e2.d] at hd
  have hrr:=e2.A.rr
  have e10:(L'.regs.map AV.int)[(10:Int).toNat]? = some (.int (L'.regs.getD 10 0)):=jF l32 10 (by decide)
  have iE:=e2.len
  rw[cJ] at e1
  refine ap<|bY<|cr<|bd rfl ‹_› iv<|aJ ?_
  cases hD:L'.done
  ·rw[if_neg (by rw[hD];decide)] at e1
   refine au rfl<|aI<|bE<|aP<|bx<|af<|bd rfl ‹_› jg<|ac<|And.intro (bZ (by(simp only[lxC,lxN,lxA,lxM,lxS,List.length_replicate];decide)))<|aM ?_
   exact⟨_,_,_,J',L',rfl,e1,aj rfl rfl,iE,e2.app⟩
  ·rw[if_pos hD] at e1
   refine aR rfl<|bE<|aP<|bx<|af<|aG<|aG<|aG<|bg<|bd rfl ‹_› cm<|bf<|bu ‹_› (by decide) (by decide) ‹_› (fun _ _=>by with_unfolding_all rfl)<|i2 (fun _=>bh)<|ax ‹_› rfl ‹_›<|o2 (fun _=>cw (by decide))<|i2 (fun _=>cC)<|ac<|And.intro (bZ (by(simp only[lxC,lxN,lxA,lxM,lxS,List.length_replicate];decide)))<|aM<|aM ?_
   exact⟨_,_,_,J',L',rfl,e1,aj rfl rfl,iE,e2.app⟩
end
section
variable {G:Gd} {D:Ad} {Q:LAd} {gt bt:List (Str×AV)} {A:Around} {F:Fx} {σ σ' σ₁ σ₂:List AO} {C:Cx} {lv:List (Str×AV)} {I:MI} {S S':MSt} {J J':LI} {L L':LSt} {We N k k' n:Nat} {ns:List Int}
theorem Mach.newIn (M:Mach D σ I S) (hl:b.length≤1000000) (e:fs=BK { I with i:=σ.length } { S with inp:=b }):Mach D ((σ++[AO.barr b]).set I.m (.inst D.mach fs)) { I with i:=σ.length } { S with inp:=b }:=by
 subst e
 have n:=M.ne
 have q1:=am M.m
 have q2:=am M.me
 have q4:=am M.o
 have M1:=M.keep (σ':=σ++[AO.barr b]) .app
 refine⟨aU M1.m,ah n.a1 M1.me,ah n.a2 M1.r,ah n.a3 M1.o,ah (Nat.ne_of_lt q1) (aj rfl rfl),?_,M.r32,M.len,M.bM,M.bO,hl,Nat.ne_of_lt q4,M.mo,Nat.ne_of_lt q2⟩
 exact M1.k.set M1.m n.a5 (by simp)
theorem Ag.start {b size:Int} {os inp:List Int} (hb:0≤b) (h1:b+size≤4294967295) (h2:os.length≤size) (h3:size≤1000) (ho:∀n∈os,0≤n∧n < 256) (hi:∀n∈inp,0≤n∧n < 256) :
  Ag ⟨b,size,cc os++List.replicate (size.toNat - (cc os).length) 0,(List.replicate 32 (0:Int)).set 2 (b+size - (b+size) % 16),b,[],cc inp,0,0,0,false⟩ (yu b size b os inp) where
 base:=rfl
 mem:=by rw[bN];show _=cc (os++_);rw[kJ,kH]
 mr:=fun n hn=>by
  rcases List.mem_append.mp hn with hn | hn
  ·exact ho n hn
  ·obtain rfl:=List.eq_of_mem_replicate hn;decide
 regs:=by show (List.replicate 32 (0:Int)).set 2 _=(List.replicate 32 (0:Int)).set 2 _;congr 1;exact Int.le_antisymm (jk (Int.le_of_eq (Int.mul_ediv_add_emod (b+size) 16).symm)) (jk (Int.le_of_eq (Int.mul_ediv_add_emod (b+size) 16)))
 rr:=jc (P:=fun n=>0≤n∧n < 4294967296) (fun n hn=>by obtain rfl:=List.eq_of_mem_replicate hn;decide) (by lia)
 pc:=rfl
 out:=rfl
 or:=fun n hn=>by cases hn
 done:=rfl
 tk:=Int.le_refl 0
 tl:=by show (0:Int)≤_;simp
 inp:=rfl
 ir:=hi
 b0:=hb
 bs:=h1
 sz:=h3
 st:=fun q=>by cases q
theorem Hq.new (A:LAt G σ₁ J L) (M:Mach D σ₂ I S) (K:Keep σ₁ σ₂) (hI:∀j∈I.all,σ₁.length≤j) (H:WellAt σ We N ns k) (T:Tabs Q σ) (K0:Keep σ σ₁) (hJ:∀j∈J.all,σ.length≤j):Hq G D Q σ₂ We N I S J L ns k:=by
 (refine dL H fun p c h1 h2 h3 h4 h5=>?_;clear H)
 have old:∀ {j:Nat} {o:AO},σ₁[j]? = some o→j ∉ I.all:=fun {j o} hj q=>absurd (am hj) (by have:=hI j q;exact Nat.not_lt.mpr this)
 have nd:∀j∈J.all,∃o,σ₁[j]? = some o:=fun j hj=>by
  simp only[LI.all,lxm,lxn,or_false] at hj
  rcases hj with rfl | rfl | rfl | rfl
  ·exact⟨_,A.d⟩
  ·exact⟨_,A.mm⟩
  ·exact⟨_,A.rr⟩
  ·exact⟨_,A.oo⟩
 refine⟨M,A.keep K,⟨p,c,K _ _ (K0 _ _ h1),h2,h3,K _ _ (K0 _ _ h4),h5⟩,(T.keep K0).keep K,old (K0 _ _ h4),fun q=>absurd (am h4) (by have:=hJ _ q;exact Nat.not_lt.mpr this),fun j hj=>?_,old A.ii⟩
 (refine b8 (nd j hj) fun o e=>?_)
 exact old e
structure Wt (Q:LAd) (σ:List AO) (We N:Nat) (ns:List Int) (k:Nat):Prop where
 H:WellAt σ We N ns k
 T:Tabs Q σ
theorem Wt.keep (h:Wt Q σ We N ns k) (K:Keep σ σ'):Wt Q σ' We N ns k:=by
 obtain⟨⟨p,c,h1,h2,h3,h4,h5⟩,T⟩:=h
 exact⟨⟨p,c,K _ _ h1,h2,h3,K _ _ h4,h5⟩,T.keep K⟩
theorem Wt.app (h:Wt Q σ We N ns k):Wt Q (σ++l) We N ns k:=h.keep .app
theorem Wt.drawn (h:Wt Q σ We N ns k) (K:KeptBut [We] σ σ') (H:WellAt σ' We N ns k'):Wt Q σ' We N ns k':=by
 (refine ci (h.H) fun p c h1 _=>?_)
 refine⟨H,h.T.kept K (fun t ht=>?_) (fun i hi q e=>?_)⟩
 ·(refine aF (h.T t ht) fun ts h2 _=>?_)
  simpa using (aO h1 h2 (by simp)).symm
 ·simp at hi;subst hi;rw[h1] at e;cases e
theorem Wt.cell (h:Wt Q σ We N ns k) (hi:σ[i]? = some (.cell v)):Wt Q (σ.set i (.cell a)) We N ns k:=by
 obtain⟨⟨p,c,h1,h2,h3,h4,h5⟩,T⟩:=h
 refine⟨⟨p,c,ah (aO hi h1 (by simp)) h1,h2,h3,ah (aO hi h4 (by simp)) h4,h5⟩,T.kept (is:=[i]) (.set (by simp) (.refl _)) (fun t ht=>?_) (fun j hj q e=>?_)⟩
 ·(refine aF (T t ht) fun ts h2 _=>?_)
  simpa using (aO hi h2 (by simp)).symm
 ·simp at hj;subst hj;rw[hi] at e;cases e
theorem Keep.len (h:Keep σ σ'):σ.length≤σ'.length:=by
 cases q:σ.length with
 | zero=>exact Nat.zero_le _
 | succ n =>
  have h1:n < σ.length:=Nat.le_of_eq q.symm
  have:=am (h n _ (List.getElem?_eq_getElem h1))
  assumption
theorem Hq.newIn (h:Hq G D Q σ We N I S J L ns k) (hl:b.length≤1000000) (e:fs=BK { I with i:=σ.length } { S with inp:=b }):Hq G D Q ((σ++[AO.barr b]).set I.m (.inst D.mach fs)) We N { I with i:=σ.length } { S with inp:=b } J L ns k:=by
 have h1:=h.app (l:=[AO.barr b])
 have K:KeptBut I.all (σ++[AO.barr b]) ((σ++[AO.barr b]).set I.m (.inst D.mach fs)) := .set (by simp) (.refl _)
 have M':=h.M.newIn hl e
 (refine dL (h.H) fun p c w1 w2 w3 w4 w5=>?_)
 have l1:=am w4
 have l2:=am h.A.ii
 have l3:=am h.A.d
 have l4:=am h.A.mm
 have l5:=am h.A.rr
 have l6:=am h.A.oo
 have o:∀j,j ∉ I.all→j < σ.length→j ∉ ({ I with i:=σ.length }:MI).all:=fun j q ql z=>by
  simp only[MI.all,lxm,lxn,or_false] at q z
  lia
 refine⟨M',h1.A.kept K h.off h.offi,h1.H.kept K (h1.H.off h1.M) h.hN,h1.tabs.kept K (fun t ht=>(h1.tabOff ht).1) h1.M.noCode,o N h.hN l1,h.nJ,fun j hj=>o j (h.off j hj) ?_,o _ h.offi l2⟩
 simp only[LI.all,lxm,lxn,or_false] at hj
 exact hj.elim (fun e=>q2 0 0 1 0 1 0 (Nat.le_of_eq e) l3 rfl) fun e=>e.elim (fun e=>q2 0 0 1 0 1 0 (Nat.le_of_eq e) l4 rfl) fun e=>e.elim (fun e=>q2 0 0 1 0 1 0 (Nat.le_of_eq e) l5 rfl) fun e=>q2 0 0 1 0 1 0 (Nat.le_of_eq e) l6 rfl
theorem nA (h1:i ∉ I.all) (h2:i ∉ J.all) (h3:We≠i) (h4:7≤i):i ∉ fQ We I J:=fun q=>by
 rcases List.mem_cons.mp q with q | q
 ·exact h3 q.symm
 rcases List.mem_append.mp q with q | q
 rcases List.mem_append.mp q with q | q
 ·simp only[lxm,lxn,or_false] at q
  exact q.elim (fun e=>Nat.lt_irrefl _ (q2 0 0 7 0 1 0 (Nat.le_of_eq e) h4 rfl)) fun e=>e.elim (fun e=>Nat.lt_irrefl _ (q2 0 1 7 0 1 0 (Nat.le_of_eq e) h4 rfl)) fun e=>e.elim (fun e=>Nat.lt_irrefl _ (q2 0 2 7 0 1 0 (Nat.le_of_eq e) h4 rfl)) fun e=>e.elim (fun e=>Nat.lt_irrefl _ (q2 0 3 7 0 1 0 (Nat.le_of_eq e) h4 rfl)) fun e=>e.elim (fun e=>Nat.lt_irrefl _ (q2 0 4 7 0 1 0 (Nat.le_of_eq e) h4 rfl)) fun e=>e.elim (fun e=>Nat.lt_irrefl _ (q2 0 5 7 0 1 0 (Nat.le_of_eq e) h4 rfl)) fun e=>Nat.lt_irrefl _ (q2 0 6 7 0 1 0 (Nat.le_of_eq e) h4 rfl)
 ·exact h2 q
 ·exact h1 q
theorem Hq.newF (h:Hq G D Q σ We N I S J L ns k) (hj:σ.length≤j):j ∉ fQ We I J:=by
 (refine gq (h.newOff hj) fun a b _ d e=>?_)
 exact nA a b d e
theorem Hq.cellF (h:Hq G D Q σ We N I S J L ns k) (hi:σ[i]? = some (.cell v)):i ∉ fQ We I J:=by
 (refine gq (h.offS hi (by simp) (by simp) (by simp) (by simp) (by simp)) fun a b _ d _=>?_)
 refine nA a b (Ne.symm d) (Nat.le_of_not_lt fun q=>?_)
 (refine aF (h.tabs i q) fun ts h1 _=>?_)
 rw[hi] at h1;cases h1
theorem Ce.keptF (h:Ce σ n cv) (hq:Hq G D Q σ We N I S J L ns k) (K:KeptBut (fQ We I J) σ σ'):Ce σ' n cv:=fun i v e=>K _ _ (hq.cellF (h i v e)) (h i v e)
theorem zx (hl:IE prog w A env s l a) (hr:IE prog w A env s r b) (h:0≤b) (h2:b≤1000000) (ha:a.natAbs < 2 ^ 64):IE prog w A env s (.BinOp l .Pow r pos) (a ^ b.toNat):=pB hl hr fun _ _ _ _ _ q=>PyProof.Rows.pow_int_small h h2 ha q
theorem Bc:(cut ns none (some 63)).length≤63:=by
 unfold cut
 rw[List.length_take]
 have:d9 ns.length (some 63)≤63:=by unfold d9;simp only[Option.elim];unfold clipAt;lia
 lia
end
section
set_option maxHeartbeats 8000000
variable {G:Gd} {D:Ad} {Z:DAd} {Q:LAd} {gt bt:List (Str×AV)} {σ σ':List AO} {C:Cx} {lv:List (Str×AV)} {I:MI} {S:MSt} {J:LI} {L:LSt} {We N k k':Nat} {ns:List Int}
noncomputable abbrev Cv:List Str:=["heard"]
noncomputable abbrev uv:List Str:=["base", "octets", "noughts", "size"]
noncomputable abbrev Cw:List Str:=["_law_told"]
theorem sg {os:List Int} {b z size:Int} (W:Wd G D gt bt) (Lg:Gl gt bt D) (Y:Law G Q gt) (T:Tabs Q σ) (hO:σ[O]? = some (.list (os.map .int))) (ho:∀n∈os,0≤n∧n < 256) (hol:os.length≤1000) (hz:0≤z∧z≤1000) (hs:0≤size) (hno:size < os.length+z) :
  CtP G 8 σ (.base (Q.fn 18)) [.int b,.dyn O,.int z,.int size] (fun r σ'=>r = .bool true∧Tabs Q σ'∧KeptBut [6] σ σ') (fun _ _=>False):=by
 (refine b8 (Y.lD 6 _ _ rfl) fun pm DD=>?_)
 (refine bC (Y.fD 6 _ rfl) fun pm6 cd6 D6=>?_)
 have B:=W.B
 have g6:=Y.gN 6 _ rfl
 have gM:=Lg.mach
 have gI:=Lg.image
 have gB:=Lg.bytes
 (refine aF (Y.glob) fun mg gl1 gl2=>?_)
 refine ic ["base", "octets", "noughts", "size"] Cv uv Cw ["heard"] 7 (cvs:=[some (.int b),some (.dyn O),some (.int z),some (.int size)]) (lv:=[("heard",.unk)]) DD (by kernel_rfl) (fun _=>rfl) rfl (so fun _ _ _ _=>rfl) rfl (by
  with_unfolding_all rfl) (by with_unfolding_all rfl) ?_
 have lb:(bi uv σ.length).lookup (Str.ofString "base")=some σ.length:=bR 0 rfl (by decide +kernel)
 have lo:(bi uv σ.length).lookup (Str.ofString "octets")=some (σ.length+1):=bR 1 rfl (by decide +kernel)
 have ln:(bi uv σ.length).lookup (Str.ofString "noughts")=some (σ.length+2):=bR 2 rfl (by decide +kernel)
 have lz:(bi uv σ.length).lookup (Str.ofString "size")=some (σ.length+3):=bR 3 rfl (by decide +kernel)
 have ce:Ce (σ++[some (.int b),some (.dyn O),some (.int z),some (.int size)].map AO.cell) σ.length [some (.int b),some (.dyn O),some (.int z),some (.int size)]:=Ce.new
 have hK:Keep σ (σ++[some (AV.int b),some (.dyn O),some (.int z),some (.int size)].map AO.cell) := .app
 have tabs:=T.keep hK
 generalize σ++[some (AV.int b),some (.dyn O),some (.int z),some (.int size)].map AO.cell=σ0 at ce hK tabs ⊢
 generalize hn:σ.length=n at lb lo ln lz ce
 refine b5 rfl<|bF rfl ‹_› rfl ‹_›<|af ?_
 have c0:=ce.zero rfl
 have c1:=ce 1 _ rfl
 have c2:=ce 2 _ rfl
 have c3:=ce 3 _ rfl
 refine dw (T:=6) (cl:=[("size",n+3),("octets",n+1),("noughts",n+2),("base",n)]) (tabs 6 (by decide)) (fun _=>rfl) (fun env f h=>by unfold closureFor cellOf;rw[h];rfl) (fun p hp=>?_) gl1 (Y.tabP 6 (by decide)) rfl (Y.hd 6 (by decide)) (gl2 6 (by decide)) (fun i k' σ8 q1 q2 q3 q4=>?_)
 ·have z0:=am c0
  have z1:=am c1
  have z2:=am c2
  have z3:=am c3
  simp only[lxm,lxn,or_false] at hp
  rcases hp with rfl | rfl | rfl | rfl
  ·exact z3
  ·exact z1
  ·exact z2
  ·exact z0
 clear c0 c1 c2 c3
 have hn7:7≤n:=by
  (refine aF (T 6 (by decide)) fun ts h1 _=>?_)
  have:=am h1
  lia
 have hO0:O≠6:=by
  (refine aF (T 6 (by decide)) fun ts h1 _=>?_)
  exact aO hO h1 (by simp)
 replace hO:=q4 _ _ (dy hO0) (hK _ _ hO)
 replace ce:=ce.kept q4 (fun i hi=>by simp at hi;lia)
 replace tabs:=tabs.made (by decide) q4 q3
 have hK2:KeptBut [6] σ σ8:=(KeptBut.of hK []).trans q4 (by simp) (fun _ h=>h)
 have c0:=ce.zero rfl
 have c1:=ce 1 _ rfl
 have c2:=ce 2 _ rfl
 have c3:=ce 3 _ rfl
 refine ac<|aD ‹_› ?_
 refine bj (fA (k:=6) W Lg Y q1 (by decide) (fG (n:=5) (cs:=["base", "noughts", "octets", "size"]) (gs:=["Machine", "Image", "bytes"]) q1 q2 Y.lim ⟨rfl,rfl,rfl,by decide +kernel,by decide +kernel,by decide +kernel⟩ (fun _ _ _ _=>rfl) ?_)) rfl (by decide)
 (refine iz ?_;apply ax;assumption;exact rfl;assumption;refine af<|b7 ?_;apply ax;assumption;exact rfl;assumption;refine af ?_;apply aQ;exact rfl;exact rfl;assumption;refine af ?_;apply aQ;exact rfl;exact rfl;assumption;refine af<|b7 ?_;apply eq;assumption;exact rfl;assumption;refine af ?_;apply aQ;exact rfl;exact rfl;assumption;apply ac;refine⟨ok fun _=>by(exact ju),?_⟩;apply dg;exact rfl;assumption;assumption;lia;refine af ?_;apply aQ;exact rfl;exact rfl;assumption;refine af ?_;apply fu;apply ac;refine⟨ok fun _=>by(apply jQ;(assumption)),?_⟩)
 refine bX (kU (by simp) W) rfl rfl fun r σ9 q=>?_
 (refine dA q fun r1 r2 r3=>?_;clear q)
 (refine b8 (⟨_,rfl⟩:∃im,im=(σ8++[AO.idict []]).length) fun im e1=>?_)
 rw[← e1] at r1 r2
 subst r1
 clear e1
 replace c3:=r3 _ _ (ad c3)
 replace tabs:=(tabs.keep .app).keep r3
 replace hK2:=hK2.app.keep r3
 clear r3 c0 c1 c2 hO ce q1 q2 q3 q4
 (refine af ?_;apply aQ;exact rfl;exact rfl;assumption;apply ac;refine⟨ok fun _=>by(apply lA;(assumption)),?_⟩)
 refine bj (CtP.imp (iT W Lg r2 (by rw[bN];exact q1 0 1000 0 1000000 hol rfl) hs (by lia) hz.1) (fun r σ10 q=>absurd q.1.2.1 (by rw[bN];exact Int.not_le.mpr hno)) (fun i σ10 q=>?_)) rfl (by decide)
 (refine dA q fun t1 t2 t3=>?_;clear q)
 refine⟨_,_,t2,?_⟩
 replace tabs:=(tabs.keep t3).keep (σ':=σ10++[AO.list [AV.str "memory",AV.int b]]) .app
 replace hK2:=(hK2.keep t3).app (l:=[AO.list [AV.str "memory",AV.int b]])
 refine Aa rfl<|bE<|gy<|bg<|aa rfl<|bf<|bu (aj rfl rfl) (by decide) (by decide) (by simp only[bS,bT,Int.reduceToNat,lxg,lxh];rfl) (fun _ _=>by with_unfolding_all rfl)<|cB<|o2 (fun _=>jP)<|aM ?_
 exact⟨by show AV.bool _=_;rw[beq_self_eq_true],tabs,hK2⟩
end
section
set_option maxHeartbeats 8000000
variable {G:Gd} {D:Ad} {Z:DAd} {Q:LAd} {gt bt:List (Str×AV)} {σ σ':List AO} {C:Cx} {lv:List (Str×AV)} {I:MI} {S:MSt} {J:LI} {L:LSt} {We N k k':Nat} {ns:List Int}
noncomputable abbrev AA:List Str:=["well", "base", "given", "calls", "asked", "noughts", "value", "size", "state", "number", "held", "heard", "due"]
noncomputable abbrev nk:List Str:=["machine", "most"]
noncomputable abbrev AB:List Str:=["_law_draw", "_law_all", "_law_state", "Machine", "Image", "bytes", "bytearray", "_law_told", "_law_walk", "_law_stands"]
noncomputable abbrev ul (pm:Value) (cd:Addr) (n:Nat):Cx:=fM (iJ 17 "_law_run_right" pm cd) AA nk AB n 12
noncomputable def oM:Stmt:=(dG (iJ 17 "_law_run_right" .none 0)).getD 6 kg
noncomputable abbrev y1 (We gv d:Nat) (b ca as no va sz:Int) (nu gi:AV):List (Str×AV):=[("well",.dyn We),("base",.int b),("given",.dyn gv),("calls",.int ca),("asked",.int as),("noughts",.int no),("value",.int va),("size",.int sz),("state",.dyn d),("number",nu),("held",gi),("heard",.unk),("due",.unk)]
theorem rc {n j t R:Nat} {K:AFl→List (Str×AV)→List AO→Prop} (W:Wd G D gt bt) (Lg:Gl gt bt D) (hh:Hq G D Q σ We N I S J L ns k) (g:Ag S L) (hd:L.done=false) (hcm:σ[n]? = some (.cell (some (.dyn I.m))))
  (hx:xs[j]? = some (.dyn t)) (ht:σ[t]? = some (.tuple [.int m,.int v])) (hR:σ[R]? = some (.list xs)) (hm0:0 < m) (hm1:m < 32) (hv:0≤v∧v < 4294967296)
  (next:∀σ',KeptBut (fQ We I J) σ σ'→Hq G D Q σ' We N I { S with regs:=S.regs.set m.toNat v } J { L with regs:=L.regs.set m.toNat v } ns k→Ag { S with regs:=S.regs.set m.toNat v } { L with regs:=L.regs.set m.toNat v } →
   qB G (ul pm cd n) (bk oM).1 (bk oM).2 (fun σ'=>σ'[R]? = some (.list xs)) xs (j+1) (y1 We gv J.d b ca as no va sz (.int m) (.int v)) σ' K) :
  qB G (ul pm cd n) (bk oM).1 (bk oM).2 (fun σ'=>σ'[R]? = some (.list xs)) xs j (y1 We gv J.d b ca as no va sz nu gi) σ K:=by
 have B:=W.B
 have lm:(bi nk n).lookup (Str.ofString "machine")=some n:=bR 0 rfl (by decide +kernel)
 have hm:=hh.M.m
 have hr:=hh.M.r
 have r32:=hh.M.r32
 have l32:L.regs.length=32:=by rw[← g.regs];exact r32
 have e:putReg S.regs m v=S.regs.set m.toNat v:=by unfold putReg;rw[if_neg (Int.ne_of_gt hm0),Int.emod_eq_of_lt hv.1 hv.2]
 rw[show bk oM=(_,_) from rfl] at next ⊢
 dsimp only at next ⊢
 refine eI hx hR ?_
 (apply ig;exact rfl;assumption;exact rfl;(intro _);rfl;(intro _);rfl;refine bQ<|aw rfl<|bQ<|aw rfl<|dP<|cY rfl<|bq ?_;apply aQ;exact rfl;assumption;assumption;apply lJ;assumption;assumption;exact rfl;refine ai rfl<|ai rfl<|ac ?_;refine⟨ok fun _=>by(apply di;(assumption);(exact rfl)),?_⟩;dsimp only[bU,bV])
 refine cp (kG (v:=v) W Lg.mask hm rfl hr (Int.le_of_lt hm0) (by rw[r32];exact hm1) r32) rfl rfl fun r σ' qq0=>?_
 (refine bD qq0 fun q1 q2=>?_;clear qq0)
 subst q1 q2
 rw[e]
 have Kr:KeptBut I.all σ (σ.set I.r (AO.list ((S.regs.set m.toNat v).map AV.int))) := .set (by simp) (.refl _)
 have hh1:=hh.mach Kr (hh.M.setR (regs:=S.regs.set m.toNat v) (by simp[r32]))
 have hK1:=Kr.wider (hG (We:=We) (J:=J))
 clear Kr hm hr
 generalize σ.set I.r (AO.list ((S.regs.set m.toNat v).map AV.int))=σ4 at hh1 hK1
 have hdd:=hh1.A.d
 have hrr:=hh1.A.rr
 (refine ap<|aA rfl<|aa rfl<|ck<|bd rfl ‹_› cm<|aa rfl ?_;apply db;assumption;exact Int.le_of_lt hm0;lia;(with_reducible exact yr (by assumption) (by decide));refine ap<|bH ?_)
 have A':=hh1.A.setRegs (m:=L.regs.set m.toNat v)
 have K':KeptBut J.all σ4 (σ4.set J.rr (AO.list ((L.regs.set m.toNat v).map AV.int))) := .set (by simp) (.refl _)
 exact⟨_,Wk.refl _,next _ (hK1.trans K' (fun _ h=>h) mG) (hh1.state K' A' rfl (.inl rfl)) { g with regs:=by rw[g.regs],rr:=jc g.rr hv,st:=fun q=>by have:L.done=true:=q;rw[hd] at this;cases this }⟩
noncomputable def uk:List Stmt:=(dG (iJ 17 "_law_run_right" .none 0)).drop 7
theorem sC:AvEs [.str w,.int v] [.str w,.int v] true := .cons .rs (.cons .ri .nil)
noncomputable def yx:List Stmt:=(dG (iJ 17 "_law_run_right" .none 0)).drop 8
theorem uj (W:Wd G D gt bt) (Lg:Gl gt bt D) (Y:Law G Q gt) (hh:Hq G D Q σ We N I S J L ns kk) (g:Ag S (cJ c most L).2) (e:(cJ c most L).1=(w,v)) (hc:Cd L c r 0) (h32:L.regs.length=32) (hm:most≤20) (hr:r≤20) (ho:L.out.length≤100) (hi:L.inp.length≤1000)
  (hcm:σ[n]? = some (.cell (some (.dyn I.m)))) (hco:σ[n+1]? = some (.cell (some (.int (most:Int))))) (hH:σ[hd]? = some (.list [.str w,.int v])) (oH:hd ∉ J.all) :
  eQ G (ul pm (Q.cd 5) n) [("well",.dyn We),("base",.int b),("given",.dyn gv),("calls",.int (c:Int)),("asked",.int as),("noughts",.int no),("value",.int va),("size",.int sz),("state",.dyn J.d),("number",nu),("held",he),("heard",.dyn hd),("due",.unk)] σ yx (fun f _ σ'=>dS f = .bool true∧Tabs Q σ') (fun _ _ _=>False):=by
 (refine bC (Y.fD 5 _ rfl) fun pm5 cd5 D5=>?_)
 (refine bC (Y.fD 16 _ rfl) fun pm16 cd16 D16=>?_)
 have B:=W.B
 have g5:=Y.gN 5 _ rfl
 have g16:=Y.gN 16 _ rfl
 have lm:(bi nk n).lookup (Str.ofString "machine")=some n:=bR 0 rfl (by decide +kernel)
 have lo:(bi nk n).lookup (Str.ofString "most")=some (n+1):=bR 1 rfl (by decide +kernel)
 rw[show yx=[_,_] from rfl]
 refine b5 rfl<|bF rfl ‹_› rfl ‹_›<|ai rfl<|ai rfl<|af<|aQ rfl ‹_› ‹_›<|ac<|aD ‹_› ?_
 refine cp (wQ W Lg Y hh.A h32 hc hm hr (q1 0 100 0 900 ho rfl) hi) rfl rfl fun x σ1 q=>?_
 (refine o0 q fun i w' v' J' L' r1 r2 r3 r4 r5=>?_;clear q)
 subst r1
 rw[r2] at e g
 cases e
 have K:=r5.K
 replace hH:=K _ _ oH hH
 replace hcm:=K _ _ (hh.offS hcm (by simp) (by simp) (by simp) (by simp) (by simp)).2.1 hcm
 replace hh:=hh.state K r5.A r5.all r5.ii
 have hd':=r5.d
 refine ym rfl<|bE<|gz<|pH<|gy<|aa rfl<|aa rfl ?_
 refine gb (r:=true) rfl (by assumption) (by assumption) sC ?_
 refine aJ<|aR rfl<|lF<|bP rfl ‹_› rfl ‹_›<|af<|aQ rfl ‹_› ‹_›<|ai rfl<|ac<|aD ‹_› ?_
 rw[← hd']
 refine bX (ip W Lg Y hh.M hh.A g) rfl rfl fun r σ2 q=>?_
 (refine bD q fun u1 u2=>?_;clear q)
 subst u1 u2
 (apply aM)
 exact⟨rfl,hh.tabs⟩
theorem xb {n c r most kk gv:Nat} (W:Wd G D gt bt) (Lg:Gl gt bt D) (V:Dec G Z gt) (O:Ops G gt) (Y:Law G Q gt) (hh:Hq G D Q σ We N I S J L ns kk) (g:Ag S L) (hc:Cd L c r 0) (hm:most≤20) (hr:r≤20) (ho:L.out.length≤100) (hi:L.inp.length≤1000)
  (ce:Ce σ n [some (.dyn I.m),some (.int (most:Int))]) (old:∀i∈[5],i < n) :
  eQ G (ul pm (Q.cd 5) n) (y1 We gv J.d b (c:Int) as no va sz (.int 10) (.int va)) σ uk (fun f _ σ'=>dS f = .bool true∧Tabs Q σ') (fun _ _ _=>False):=by
 (refine bC (Y.fD 5 _ rfl) fun pm5 cd5 D5=>?_)
 (refine bC (Y.fD 6 _ rfl) fun pm6 cd6 D6=>?_)
 (refine bC (Y.fD 16 _ rfl) fun pm16 cd16 D16=>?_)
 have B:=W.B
 have g5:=Y.gN 5 _ rfl
 have g6:=Y.gN 6 _ rfl
 have g16:=Y.gN 16 _ rfl
 (refine aF (Y.glob) fun mg gl1 gl2=>?_)
 have lm:(bi nk n).lookup (Str.ofString "machine")=some n:=bR 0 rfl (by decide +kernel)
 have lo:(bi nk n).lookup (Str.ofString "most")=some (n+1):=bR 1 rfl (by decide +kernel)
 have hcm:=ce.zero rfl
 have hco:=ce 1 _ rfl
 have hout:S.out.length≤100:=by rw[g.out,bN];exact ho
 have h32:L.regs.length=32:=by rw[← g.regs];exact hh.M.r32
 rw[show uk=[_,_,_] from rfl]
 refine b5 rfl<|bF rfl ‹_› rfl ‹_›<|af ?_
 refine dw (T:=5) (cl:=[("most",n+1),("machine",n)]) (hh.tabs 5 (by decide)) (fun _=>rfl) (fun env f h=>by unfold closureFor cellOf;rw[h];rfl) (fun p hp=>?_) gl1 (Y.tabP 5 (by decide)) rfl (Y.hd 5 (by decide)) (gl2 5 (by decide)) (fun i k' σ8 q1 q2 q3 q4=>?_)
 ·have z1:=am hcm
  have z2:=am hco
  simp only[lxm,lxn,or_false] at hp
  rcases hp with rfl | rfl
  ·exact z2
  ·exact z1
 clear hcm hco
 replace ce:=ce.kept q4 old
 replace hh:=hh.made (by decide) q4 q3
 refine ac<|aD ‹_› ?_
 have hcm:=ce.zero rfl
 have hco:=ce 1 _ rfl
 have hm1:=hh.M.m
 refine bj (fA (k:=11) W Lg Y q1 (by decide) (fG (n:=10) (cs:=["machine", "most"]) (gs:=[]) q1 q2 Y.lim ⟨rfl,rfl,rfl,by decide +kernel,by decide +kernel,by decide +kernel⟩ (fun _ _ _ _=>rfl) ?_)) rfl (by decide)
 (refine bq ?_;apply aQ;exact rfl;exact rfl;assumption;apply zQ;assumption;assumption;exact rfl;refine af ?_;apply aQ;exact rfl;exact rfl;assumption;apply ac;refine⟨ok fun _=>by(apply di;(assumption);(exact rfl)),?_⟩;dsimp only[bU,bV])
 refine bj (CtP.imp (yY W Lg V O hh.M g hc (mI hout hm)) (fun r σ9 q=>?_) (fun i σ9 q=>?_)) rfl (by decide)
 ·(refine bW q fun S' u1 u2 u3 u4 u5=>?_;clear q)
  subst u1
  have o1:=(hh.offS hcm (by simp) (by simp) (by simp) (by simp) (by simp)).1
  have o2:=(hh.offS hco (by simp) (by simp) (by simp) (by simp) (by simp)).1
  have h9:=hh.mach u5 u3
  have o3:=(h9.newOff (Nat.le_refl _)).2.1
  refine⟨by simp,?_⟩
  refine aw rfl ?_
  with_reducible apply ap
  exact uj W Lg Y h9.app u4 (Prod.ext u2 rfl) hc h32 hm hr ho hi (ad (u5 _ _ o1 hcm)) (ad (u5 _ _ o2 hco)) (aj rfl rfl) o3
 ·(refine fc q fun S' u1 u3 u4 u5=>?_;clear q)
  have o1:=(hh.offS hcm (by simp) (by simp) (by simp) (by simp) (by simp)).1
  have o2:=(hh.offS hco (by simp) (by simp) (by simp) (by simp) (by simp)).1
  have h9:=hh.mach u5 u3
  have o3:=(h9.newOff (Nat.le_refl _)).2.1
  refine⟨_,_,u1,?_⟩
  refine aw rfl ?_
  with_reducible apply ap
  exact uj W Lg Y h9.app u4 rfl hc h32 hm hr ho hi (ad (u5 _ _ o1 hcm)) (ad (u5 _ _ o2 hco)) (aj rfl rfl) o3
end
section
set_option maxHeartbeats 8000000
variable {G:Gd} {D:Ad} {Z:DAd} {Q:LAd} {gt bt:List (Str×AV)} {σ σ':List AO} {C:Cx} {lv:List (Str×AV)} {I:MI} {S:MSt} {J:LI} {L:LSt} {We N k k':Nat} {ns:List Int}
theorem pb (W:Wd G D gt bt) (Lg:Gl gt bt D) (Y:Law G Q gt) (h:Wt Q σ We N ns k) (ce:Ce σ n cv) (hWe:We < n) (hV:σ[gv]? = some o) (hne:We≠gv) (hk:k < 800) (hm:0 < m) :
  CtP G 2 σ (.base (Q.fn 0)) [.dyn We,.int m] (fun r σ'=>∃v,r = .int v∧(0≤v∧v < m)∧Wt Q σ' We N ns (k+1)∧Ce σ' n cv∧σ'[gv]? = some o∧KeptBut [We] σ σ') (fun _ _=>False) :=
 CtP.imp (cR W Lg Y h.H (q1 1 800 1 900 hk rfl) hm) (fun r σ' q=>by
  (refine bW q fun v r1 r2 r3 r4 r5=>?_;clear q)
  exact⟨v,r1,r2,h.drawn r4 r3,ce.kept r4 (fun i hi=>by simp at hi;exact q2 0 0 1 0 1 0 (Nat.le_of_eq hi) hWe rfl),r4 _ _ (dy hne.symm) hV,r4⟩) (fun _ _ q=>q)
noncomputable def yw:List Stmt:=(dG (iJ 17 "_law_run_right" .none 0)).drop 6
theorem yZ {n c r most kk gv:Nat} (W:Wd G D gt bt) (Lg:Gl gt bt D) (V:Dec G Z gt) (O:Ops G gt) (Y:Law G Q gt) (hq:Hq G D Q σ We N I S J L ns kk) (ag:Ag S L) (hc:Cd L c r 0) (hd:L.done=false) (hm:most≤20) (hr:r≤20) (ho:L.out.length≤100) (hi:L.inp.length≤1000)
  (ce:Ce σ n [some (.dyn I.m),some (.int (most:Int))]) (has:0≤as∧as < 4294967296) (bva:0≤va∧va < 4294967296) (h7:7≤n) :
  eQ G (ul pm (Q.cd 5) n) [("well",.dyn We),("base",.int b),("given",.dyn gv),("calls",.int (c:Int)),("asked",.int as),("noughts",.int no),("value",.int va),("size",.int sz),("state",.dyn J.d),("number",.unk),("held",.unk),("heard",.unk),("due",.unk)] σ yw (fun f _ σ'=>dS f = .bool true∧Tabs Q σ') (fun _ _ _=>False):=by
 rw[show yw=[_,_,_,_] from rfl]
 refine aW (eJ rfl ?_)
 refine aP<|af<|b9<|az<|ai rfl<|ac<|And.intro (bZ (by(simp only[lxC,lxN,lxA,lxM,lxS,List.length_replicate];decide)))<|af<|b9<|az<|ai rfl<|ac<|And.intro (bZ (by(simp only[lxC,lxN,lxA,lxM,lxS,List.length_replicate];decide)))<|ac<|And.intro (bZ (by(simp only[lxC,lxN,lxA,lxM,lxS,List.length_replicate];decide))) ?_
 dsimp only
 have n1:=hq.newF (j:=(σ++[AO.tuple [AV.int 17,AV.int as]]++[AO.tuple [AV.int 10,AV.int va]]).length) (by simp)
 have n2:=hq.newF (j:=(σ++[AO.tuple [AV.int 17,AV.int as]]).length) (by simp)
 have K3:Keep σ (σ++[AO.tuple [AV.int 17,AV.int as]]++[AO.tuple [AV.int 10,AV.int va]]++[AO.list [AV.dyn σ.length,AV.dyn (σ++[AO.tuple [AV.int 17,AV.int as]]).length]]):=fun i o h=>ad (ad (ad h))
 have ht1:(σ++[AO.tuple [AV.int 17,AV.int as]]++[AO.tuple [AV.int 10,AV.int va]]++[AO.list [AV.dyn σ.length,AV.dyn (σ++[AO.tuple [AV.int 17,AV.int as]]).length]])[σ.length]? = some (.tuple [.int 17,.int as]):=ad (ad (aj rfl rfl))
 have ht2:(σ++[AO.tuple [AV.int 17,AV.int as]]++[AO.tuple [AV.int 10,AV.int va]]++[AO.list [AV.dyn σ.length,AV.dyn (σ++[AO.tuple [AV.int 17,AV.int as]]).length]])[(σ++[AO.tuple [AV.int 17,AV.int as]]).length]? = some (.tuple [.int 10,.int va]):=ad (aj rfl rfl)
 have hR:(σ++[AO.tuple [AV.int 17,AV.int as]]++[AO.tuple [AV.int 10,AV.int va]]++[AO.list [AV.dyn σ.length,AV.dyn (σ++[AO.tuple [AV.int 17,AV.int as]]).length]])[(σ++[AO.tuple [AV.int 17,AV.int as]]++[AO.tuple [AV.int 10,AV.int va]]).length]? = some (.list [AV.dyn σ.length,AV.dyn (σ++[AO.tuple [AV.int 17,AV.int as]]).length]):=aj rfl rfl
 have n0:=hq.newF (Nat.le_refl _)
 have hq3:=hq.keep K3
 have ce3:=ce.keep K3
 clear K3
 generalize (σ++[AO.tuple [AV.int 17,AV.int as]]++[AO.tuple [AV.int 10,AV.int va]]).length=R at n1 hR ⊢
 generalize (σ++[AO.tuple [AV.int 17,AV.int as]]).length=t2 at hq3 ce3 n2 ht1 ht2 hR ⊢
 generalize σ.length=t1 at hq3 ce3 n0 ht1 ht2 hR ⊢
 generalize σ++[AO.tuple [AV.int 17,AV.int as]]++[AO.tuple [AV.int 10,AV.int va]]++[AO.list [AV.dyn t1,AV.dyn t2]]=σ3 at hq3 ce3 ht1 ht2 hR ⊢
 refine⟨[.dyn t1,.dyn t2],_,fun A hh=>jv hh hR,?_⟩
 refine rc (j:=0) (m:=17) (v:=as) W Lg hq3 ag hd (ce3.zero rfl) rfl ht1 hR (by decide) (by decide) has (fun σ4 K4 h4 g4=>?_)
 have ce4:=ce3.keptF hq3 K4
 refine rc (j:=1) (m:=10) (v:=va) W Lg h4 g4 hd (ce4.zero rfl) rfl (K4 _ _ n2 ht2) (K4 _ _ n1 hR) (by decide) (by decide) bva (fun σ5 K5 h5 g5=>?_)
 have ce5:=ce4.keptF h4 K5
 refine ei rfl (K5 _ _ n1 (K4 _ _ n1 hR)) ?_
 with_reducible apply ap
 refine xb (as:=as) W Lg V O Y h5 g5 ⟨hc.mem,hc.c5,hc.pc,hc.tc,hc.al⟩ hm hr ho hi ce5 (fun i hi=>by simp at hi;exact q2 0 5 7 0 1 0 (Nat.le_of_eq hi) h7 rfl)
theorem jZ {inp:List Int} (W:Wd G D gt bt) (Lg:Gl gt bt D) (V:Dec G Z gt) (O:Ops G gt) (Y:Law G Q gt) (h:Wt Q σ We N ns k) (hV:σ[gv]? = some (.list (inp.map .int))) (hi:∀n∈inp,0≤n∧n < 256) (hil:inp.length≤900) (hb:0≤b∧b≤4294966784) (hb4:b % 4=0) (hk:k≤600) :
  CtP G 13 σ (.base (Q.fn 17)) [.dyn We,.int b,.dyn gv] (fun r σ'=>r = .bool true∧Tabs Q σ') (fun _ _=>False):=by
 (refine b8 (Y.lD 5 _ _ rfl) fun pm DD=>?_)
 (refine bC (Y.fD 0 _ rfl) fun pm0 cd0 D0=>?_)
 have B:=W.B
 have g0:=Y.gN 0 _ rfl
 (refine bC (Y.fD 15 _ rfl) fun pm15 cd15 D15=>?_)
 have g15:=Y.gN 15 _ rfl
 have gM:=Lg.mach
 have gI:=Lg.image
 have gB:=Lg.bytes
 have gA:=Lg.barr
 have ga:=Y.gAll
 refine ic ["well", "base", "given"] AA nk AB (AA.drop 3) 12 (cvs:=[none,none]) (lv:=[("well",.dyn We),("base",.int b),("given",.dyn gv),("calls",.unk),("asked",.unk),("noughts",.unk),("value",.unk),("size",.unk),("state",.unk),("number",.unk),("held",.unk),("heard",.unk),("due",.unk)]) DD (by kernel_rfl) (fun _=>rfl) rfl (fW fun _ _ _=>rfl) rfl (by
  with_unfolding_all rfl) (by with_unfolding_all rfl) ?_
 have lm:(bi nk σ.length).lookup (Str.ofString "machine")=some σ.length:=bR 0 rfl (by decide +kernel)
 have lo:(bi nk σ.length).lookup (Str.ofString "most")=some (σ.length+1):=bR 1 rfl (by decide +kernel)
 have ce:Ce (σ++[(none:Option AV),none].map AO.cell) σ.length [none,none]:=Ce.new
 have hh:=h.app (l:=[(none:Option AV),none].map AO.cell)
 have hgv:=am hV
 have hWe:=h.H.lt
 have hne:We≠gv:=by
  (refine ci (h.H) fun p c h1 _=>?_)
  exact aO h1 hV fun e=>by cases inp with
   | nil=>simp at e
   | cons a l=>simp at e
 have hV:=ad (l:=[(none:Option AV),none].map AO.cell) hV
 generalize σ++[(none:Option AV),none].map AO.cell=σ0 at ce hh hV
 generalize hn:σ.length=n at lm lo ce hgv hWe
 refine aW (ej "most" _ (.tail _ (.head _)) rfl (by exact rfl) ?_)
 refine b9<|af<|aG<|bf<|bP rfl ‹_› rfl ‹_›<|ai rfl<|az<|ac<|aD ‹_› ?_
 refine bX (pb (m:=5) W Lg Y hh ce hWe hV hne (q1 0 600 1 800 hk rfl) (by decide)) rfl rfl fun r σ1 q=>?_
 (refine fa q fun ca r1 bca hh ce hV _=>?_;clear q)
 subst r1
 refine o2 (fun _=>bh)<|af<|bP rfl ‹_› rfl ‹_›<|ai rfl<|az<|ac<|aD ‹_› ?_
 refine bX (pb (m:=9) W Lg Y hh ce hWe hV hne (q1 0 600 2 800 hk rfl) (by decide)) rfl rfl fun r σ2 q=>?_
 (refine fa q fun mo r1 bmo hh ce hV _=>?_;clear q)
 subst r1
 refine af<|bg<|aP<|az<|az<|az<|az<|az<|az<|ac<|aL rfl<|bP rfl ‹_› rfl ‹_›<|ai rfl<|az<|ac<|aD ‹_› ?_
 have hls:(σ2++[AO.list [AV.int 2,AV.int 1,AV.int 93,AV.int 7,AV.int 2,AV.int 1]])[σ2.length]? = some (AO.list [AV.int 2,AV.int 1,AV.int 93,AV.int 7,AV.int 2,AV.int 1]):=aj rfl rfl
 have hl2:=hh.H.lt
 refine bX (pb (m:=6) W Lg Y (hh.app (l:=[AO.list [AV.int 2,AV.int 1,AV.int 93,AV.int 7,AV.int 2,AV.int 1]])) ce.app hWe (ad hV) hne (q1 0 600 3 800 hk rfl) (by decide)) rfl rfl fun r σ3 q=>?_
 (refine fa q fun v r1 bv hh ce hV K3=>?_;clear q)
 subst r1
 replace hls:=K3 _ _ (dy (Nat.ne_of_gt hl2)) hls
 obtain⟨as,has,hx⟩:∃as:Int,(0≤as∧as < 4294967296)∧([AV.int 2,AV.int 1,AV.int 93,AV.int 7,AV.int 2,AV.int 1])[v.toNat]? = some (AV.int as):=by
  have:v=0∨v=1∨v=2∨v=3∨v=4∨v=5:=v6 bv
  rcases this with rfl | rfl | rfl | rfl | rfl | rfl<;>exact⟨_,by decide,rfl⟩
 refine bu hls bv.1 (Int.lt_of_lt_of_le bv.2 (by decide)) hx (by intro _ _;with_unfolding_all rfl) ?_
 clear hls hx bv K3 hl2
 have hco:=ce 1 _ rfl
 refine ac<|And.intro (bZ (by(simp only[lxC,lxN,lxA,lxM,lxS,List.length_replicate];decide)))<|ig rfl (aj rfl rfl) rfl (fun _=>rfl) (fun _=>rfl)<|bQ<|aw rfl<|bQ<|de rfl rfl ‹_› (ad ‹_›)<|bQ<|aw rfl<|dP<|ap<|aW<|dV rfl (by exact rfl) (by exact rfl) rfl (by rw[bG];rfl) rfl rfl rfl<|b9<|af<|bP rfl ‹_› rfl ‹_›<|ai rfl<|az<|ac<|aD ‹_› ?_
 have hne1:n+1≠gv:=Nat.ne_of_gt (q1 1 0 1 1 hgv rfl)
 replace hh:=(hh.app (l:=[AO.tuple [AV.int (1+ca),AV.int mo,AV.int as]])).cell (a:=some (.int mo)) (ad hco)
 replace ce:=(ce.app (l:=[AO.tuple [AV.int (1+ca),AV.int mo,AV.int as]])).set (j:=1) (a:=some (.int mo)) rfl
 replace hV:=ah (x := .cell (some (.int mo))) hne1 (ad (l:=[AO.tuple [AV.int (1+ca),AV.int mo,AV.int as]]) hV)
 clear hco
 generalize (σ3++[AO.tuple [AV.int (1+ca),AV.int mo,AV.int as]]).set (n+1) (AO.cell (some (AV.int mo)))=σ4 at hh ce hV ⊢
 refine bX (pb (m:=9) W Lg Y hh ce hWe hV hne (q1 0 600 4 800 hk rfl) (by decide)) rfl rfl fun r σ5 q=>?_
 (refine fa q fun no r1 bno hh ce hV _=>?_;clear q)
 subst r1
 refine af<|bP rfl ‹_› rfl ‹_›<|ai rfl<|af<|ax ‹_› rfl ‹_›<|ac<|aD ‹_› ?_
 refine bX (pb (m:=4294967296) W Lg Y hh ce hWe hV hne (q1 0 600 5 800 hk rfl) (by decide)) rfl rfl fun r σ6 q=>?_
 (refine fa q fun va r1 bva hh ce hV _=>?_;clear q)
 subst r1
 (refine ac<|And.intro (bZ (by(simp only[lxC,lxN,lxA,lxM,lxS,List.length_replicate];decide))) ?_;apply Exists.intro;apply Exists.intro;apply Exists.intro;refine And.intro rfl ?_;apply And.intro;exact aj rfl rfl;apply aK;dsimp only[bS,bT,cK,bV,bU];rfl;refine aA rfl<|aG<|aG<|bf<|aa rfl<|o2 (fun _=>fO (cF (Int.lt_of_lt_of_le (by decide) (Int.add_le_add_left bca.1 _)) (Int.lt_of_lt_of_le (Int.add_lt_add_left bca.2 _) (by decide))))<|aa rfl<|o2 (fun _=>bh)<|qV rfl<|b5 rfl<|bF rfl ‹_› rfl ‹_›<|ai rfl<|af<|aG<|aP<|az<|az<|az<|az<|ac<|aL rfl<|aa rfl ?_)
 (refine b8 (⟨(1+ca).toNat,by lia⟩:∃c:Nat,1+ca=c) fun c hc=>?_)
 rw[hc]
 (refine b8 (⟨mo.toNat,Int.le_antisymm (jk (Int.le_of_eq (Int.toNat_of_nonneg bmo.1).symm)) (jk (Int.le_of_eq (Int.toNat_of_nonneg bmo.1)))⟩:∃x:Nat,mo=x) fun most zz34=>?_;subst zz34)
 (refine b8 (⟨no.toNat,Int.le_antisymm (jk (Int.le_of_eq (Int.toNat_of_nonneg bno.1).symm)) (jk (Int.le_of_eq (Int.toNat_of_nonneg bno.1)))⟩:∃x:Nat,no=x) fun r zz35=>?_;subst zz35)
 have hcl:=eV c
 replace hh:=hh.app (l:=[AO.tuple [AV.int (r:Int),AV.int va]])
 replace ce:=ce.app (l:=[AO.tuple [AV.int (r:Int),AV.int va]])
 replace hV:=ad (l:=[AO.tuple [AV.int (r:Int),AV.int va]]) hV
 generalize σ6++[AO.tuple [AV.int (r:Int),AV.int va]]=σ7 at hh ce hV ⊢
 skip
 refine lI (ns:=[115,0,0,0]) (by exact aj rfl rfl) (by simp) (nC (Int.le_of_eq hc.symm) bca.2) (by decide) ?_
 rw[Int.toNat_natCast]
 refine ai rfl<|ai rfl<|ai rfl<|ac<|aD ‹_› ?_
 have hO:(σ7++[AO.list [AV.int 115,AV.int 0,AV.int 0,AV.int 0]]++[AO.list ((c6 c).map AV.int)])[(σ7++[AO.list [AV.int 115,AV.int 0,AV.int 0,AV.int 0]]).length]? = some (.list ((c6 c).map .int)):=aj rfl rfl
 rw[show (List.replicate c [(115:Int),0,0,0]).flatten=c6 c from rfl]
 replace hh:=(hh.app (l:=[AO.list [AV.int 115,AV.int 0,AV.int 0,AV.int 0]])).app (l:=[AO.list ((c6 c).map AV.int)])
 replace ce:=(ce.app (l:=[AO.list [AV.int 115,AV.int 0,AV.int 0,AV.int 0]])).app (l:=[AO.list ((c6 c).map AV.int)])
 replace hV:=ad (l:=[AO.list ((c6 c).map AV.int)]) (ad (l:=[AO.list [AV.int 115,AV.int 0,AV.int 0,AV.int 0]]) hV)
 generalize (σ7++[AO.list [AV.int 115,AV.int 0,AV.int 0,AV.int 0]]).length=Oc at hO ⊢
 generalize σ7++[AO.list [AV.int 115,AV.int 0,AV.int 0,AV.int 0]]++[AO.list ((c6 c).map AV.int)]=σ8 at hh ce hV hO ⊢
 refine cp (oE (e:=b) (size:=4*(c:Int)+r) W Lg Y hO hV (by rw[hcl];exact jk bno.1 (by simp +arith only[Int.natCast_mul,Int.cast_ofNat_Int])) (oZ bno.2 (ny 4 (Int.le_of_eq hc.symm) rfl) (ny 4 bca.2 rfl)) (⟨hb.1,Int.le_trans hb.2 (by decide)⟩)) rfl rfl fun x σ9 q=>?_
 (refine bW q fun J r1 A9 rii K9 rJ=>?_;clear q)
 subst r1
 have hcr:∀n∈(List.replicate c [(115:Int),0,0,0]).flatten,0≤n∧n < 256:=mW
 have hcl2:(List.replicate c [(115:Int),0,0,0]).flatten.length≤16777216:=by have:=hcl;unfold c6 at this;exact Int.ofNat_le.mp (oZ (Int.ofNat_le.mpr (Nat.le_of_eq this)) (ny 4 (Int.le_of_eq hc.symm) rfl) (ny 4 bca.2 rfl) (by simp +arith only[Int.natCast_mul,Int.cast_ofNat_Int]))
 have ce9:=ce.keep K9
 refine wE rfl<|b5 rfl<|bF rfl ‹_› rfl ‹_›<|af<|bP rfl ‹_› rfl ‹_›<|ai rfl<|ai rfl<|af<|cb rfl ‹_› rfl ‹_›<|af<|aG<|aP<|az<|az<|az<|az<|ac<|aL rfl<|aa rfl ?_
 refine lI (ns:=[115,0,0,0]) (by exact aj rfl rfl) (by simp) (nC (Int.le_of_eq hc.symm) bca.2) (by decide) ?_
 rw[Int.toNat_natCast]
 (apply ac;refine⟨ok fun _=>by(exact ju),?_⟩;apply dg;exact rfl;exact aj rfl rfl;assumption;assumption;refine ai rfl<|af ?_;apply fu;apply ac;refine⟨ok fun _=>by(apply jQ;(assumption)),?_⟩)
 generalize (σ9++[AO.list [AV.int 115,AV.int 0,AV.int 0,AV.int 0]]++[AO.list (List.map AV.int (List.replicate c [(115:Int),0,0,0]).flatten)]).length=sy
 have K10:Keep σ9 (σ9++[AO.list [AV.int 115,AV.int 0,AV.int 0,AV.int 0]]++[AO.list (List.map AV.int (List.replicate c [(115:Int),0,0,0]).flatten)]++[AO.idict []]):=fun i o h=>ad (ad (ad h))
 generalize σ9++[AO.list [AV.int 115,AV.int 0,AV.int 0,AV.int 0]]++[AO.list (List.map AV.int (List.replicate c [(115:Int),0,0,0]).flatten)]++[AO.idict []]=σ10 at K10 ⊢
 refine bX (kU (by simp) W) rfl rfl fun x σ11 q=>?_
 (refine dA q fun r1 r2 r3=>?_;clear q)
 generalize σ10.length=im at r1 r2
 subst r1
 replace K10:=K10.trans r3
 clear r3
 (refine ai rfl<|ac ?_;refine⟨ok fun _=>by(apply lA;(assumption)),?_⟩)
 refine bj (CtP.imp (iT W Lg r2 (by rw[bN];show (c6 c).length≤_;exact Int.ofNat_le.mp (oZ (Int.ofNat_le.mpr (Nat.le_of_eq hcl)) (ny 4 (Int.le_of_eq hc.symm) rfl) (ny 4 bca.2 rfl) (by simp +arith only[Int.natCast_mul,Int.cast_ofNat_Int]))) (nC bno.1 (ny 4 (Int.natCast_nonneg c) rfl)) (oZ bno.2 (ny 4 (Int.le_of_eq hc.symm) rfl) (ny 4 bca.2 rfl)) (by simp)) (fun x σ12 q=>?_) (fun i σ12 q=>absurd ⟨hb.1,by rw[bN];show ((c6 c).length:Int)+r≤_;exact jk (Int.ofNat_le.mpr (Nat.le_of_eq hcl)) (by simp +arith only[Int.natCast_mul,Int.cast_ofNat_Int]),oZ hb.2 bno.2 (Int.add_le_add (ny 4 (Int.le_of_eq hc.symm) rfl) (ny 4 bca.2 rfl))⟩ q.1)) rfl (by decide)
 (refine nN q fun _ I t2 M t4 t5=>?_;clear q)
 subst t2
 clear r2
 have len9:=(K10.trans t4).len
 have hq:=Hq.new A9 M (K10.trans t4) (fun j hj=>Nat.le_trans K10.len (t5 j hj)) hh.H hh.T K9 rJ
 replace ce9:=(ce9.keep K10).keep t4
 have hcm:=ce9.zero rfl
 refine de rfl rfl ‹_› ‹_›<|ap<|aA rfl<|cb rfl ‹_› rfl ‹_›<|ai rfl<|ac<|aT ?_
 replace hq:=hq.cell (a:=some (.dyn I.m)) hcm
 replace ce9:=ce9.set (j:=0) (a:=some (.dyn I.m)) rfl
 have hV9:=ah (i:=n) (x := .cell (some (.dyn I.m))) (Nat.ne_of_gt hgv) (t4 _ _ (K10 _ _ (K9 _ _ hV)))
 clear hcm M t4 t5
 generalize σ12.set n (AO.cell (some (AV.dyn I.m)))=σ13 at hq ce9 hV9 ⊢
 refine oc (fun _=>lN hV9 hi (q1 0 900 0 16777216 hil rfl)) ?_
 have hm:=hq.M.m
 have hcm:=ce9.zero rfl
 refine bJ<|aQ rfl ‹_› (ad ‹_›)<|cT ‹_› (ad ‹_›) rfl ?_
 refine aK (σ₁:=(σ13++[AO.barr (cc inp)]).set I.m (AO.inst D.mach [(Str.ofString "base",AV.int b),(Str.ofString "size",AV.int (4*(c:Int)+(r:Int))),(Str.ofString "memory",AV.dyn I.me),(Str.ofString "registers",AV.dyn I.r),(Str.ofString "pc",AV.int b),(Str.ofString "output",AV.dyn I.o),(Str.ofString "input",AV.dyn σ13.length),(Str.ofString "taken",AV.int 0),(Str.ofString "steps",AV.int 0),(Str.ofString "status",AV.int 0),(Str.ofString "is_done",AV.bool false),(Str.ofString "known",AV.dyn I.k)])) rfl rfl ?_
 have hq2:=hq.newIn (b:=cc inp) (fs:=[(Str.ofString "base",AV.int b),(Str.ofString "size",AV.int (4*(c:Int)+(r:Int))),(Str.ofString "memory",AV.dyn I.me),(Str.ofString "registers",AV.dyn I.r),(Str.ofString "pc",AV.int b),(Str.ofString "output",AV.dyn I.o),(Str.ofString "input",AV.dyn σ13.length),(Str.ofString "taken",AV.int 0),(Str.ofString "steps",AV.int 0),(Str.ofString "status",AV.int 0),(Str.ofString "is_done",AV.bool false),(Str.ofString "known",AV.dyn I.k)]) (by rw[bN];exact q1 0 900 0 1000000 hil rfl) rfl
 have ce10:Ce ((σ13++[AO.barr (cc inp)]).set I.m (AO.inst D.mach [(Str.ofString "base",AV.int b),(Str.ofString "size",AV.int (4*(c:Int)+(r:Int))),(Str.ofString "memory",AV.dyn I.me),(Str.ofString "registers",AV.dyn I.r),(Str.ofString "pc",AV.int b),(Str.ofString "output",AV.dyn I.o),(Str.ofString "input",AV.dyn σ13.length),(Str.ofString "taken",AV.int 0),(Str.ofString "steps",AV.int 0),(Str.ofString "status",AV.int 0),(Str.ofString "is_done",AV.bool false),(Str.ofString "known",AV.dyn I.k)])) n _:=fun i v e=>ah (aO hm (ce9 i v e) (by simp)) (ce9.app i v e)
 have ag:=Ag.start (b:=b) (size:=4*(c:Int)+r) (os:=c6 c) (inp:=inp) hb.1 (oZ hb.2 bno.2 (Int.add_le_add (ny 4 (Int.le_of_eq hc.symm) rfl) (ny 4 bca.2 rfl))) (nC (Int.ofNat_le.mpr (Nat.le_of_eq hcl)) bno.1 (by simp +arith only[Int.natCast_mul,Int.cast_ofNat_Int])) (oZ bno.2 (ny 4 (Int.le_of_eq hc.symm) rfl) (ny 4 bca.2 rfl)) mW hi
 have hc':Cd (yu b (4*(c:Int)+r) b (c6 c) inp) c r 0:=⟨by show c6 c++_=_;congr 2;lia,by lia,by show b=b+4*((0:Nat):Int);simp,Nat.zero_le _,hb4⟩
 generalize (σ13++[AO.barr (cc inp)]).set I.m (AO.inst D.mach [(Str.ofString "base",AV.int b),(Str.ofString "size",AV.int (4*(c:Int)+(r:Int))),(Str.ofString "memory",AV.dyn I.me),(Str.ofString "registers",AV.dyn I.r),(Str.ofString "pc",AV.int b),(Str.ofString "output",AV.dyn I.o),(Str.ofString "input",AV.dyn σ13.length),(Str.ofString "taken",AV.int 0),(Str.ofString "steps",AV.int 0),(Str.ofString "status",AV.int 0),(Str.ofString "is_done",AV.bool false),(Str.ofString "known",AV.dyn I.k)])=σ14 at hq2 ce10 ⊢
 generalize hI2:({ I with i:=σ13.length }:MI)=I2 at hq2
 have hIm:I.m=I2.m:=by rw[← hI2]
 rw[hIm] at ce10
 clear hq ce9 hV9 hm hcm
 have hd0:(yu b (4*(c:Int)+r) b (c6 c) inp).done=false:=rfl
 have ho0:(yu b (4*(c:Int)+r) b (c6 c) inp).out.length=0:=rfl
 have hi0:(yu b (4*(c:Int)+r) b (c6 c) inp).inp.length=inp.length:=rfl
 refine yZ W Lg V O Y hq2 ?_ hc' hd0 (by lia) (by lia) (q1 0 0 0 100 (Nat.le_of_eq ho0) rfl) (q2 0 0 0 900 0 1000 (Nat.le_of_eq hi0) hil rfl) ce10 has bva (by
  (refine aF (h.T 6 (by decide)) fun ts h1 _=>?_)
  have:=am h1
  exact q2 7 0 0 0 7 0 this (Nat.le_of_eq hn) rfl)
 exact ag
end
section
set_option maxHeartbeats 8000000
variable {G:Gd} {D:Ad} {Z:DAd} {Q:LAd} {gt bt:List (Str×AV)} {σ σ':List AO} {C:Cx} {lv:List (Str×AV)} {I:MI} {S:MSt} {J:LI} {L:LSt} {We N k k':Nat} {ns:List Int}
noncomputable abbrev yA:List Str:=["script", "well", "base", "many", "octets", "noughts", "size", "given", "state", "machine"]
noncomputable abbrev uB:List Str:=["seed"]
noncomputable abbrev yB:List Str:=["_law_draw", "range", "max", "_law_state", "Machine", "Image", "bytes", "bytearray", "_law_stands", "_law_deeds_right", "_law_no_room", "_law_run_right"]
noncomputable abbrev yC (pm:Value) (cd:Addr) (n:Nat):Cx:=fM (iJ 19 "law" pm cd) yA uB yB n 15
theorem mT (W:Wd G D gt bt) (Lg:Gl gt bt D) (Y:Law G Q gt) (h:Wt Q σ We N ns k) (ce:Ce σ n cv) (hWe:∀i < cv.length,We≠n+i) (hk:k < 800) (hm:0 < m) :
  CtP G 2 σ (.base (Q.fn 0)) [.dyn We,.int m] (fun r σ'=>∃v,r = .int v∧(0≤v∧v < m)∧Wt Q σ' We N ns (k+1)∧Ce σ' n cv∧KeptBut [We] σ σ') (fun _ _=>False) :=
 CtP.imp (cR W Lg Y h.H (q1 1 800 1 900 hk rfl) hm) (fun r σ' q=>by
  (refine bW q fun v r1 r2 r3 r4 r5=>?_;clear q)
  exact⟨v,r1,r2,h.drawn r4 r3,fun i v e=>r4 _ _ (dy (hWe i (List.getElem?_eq_some_iff.mp e).1).symm) (ce i v e),r4⟩) (fun _ _ q=>q)
noncomputable def uA:List Stmt:=(dG (iJ 19 "law" .none 0)).drop 10
theorem uE {os inp:List Int} (W:Wd G D gt bt) (Lg:Gl gt bt D) (V:Dec G Z gt) (O:Ops G gt) (Y:Law G Q gt) (hq:Hq G D Q σ We N I S J L ns kk) (ag:Ag S L) (hd:L.done=false) (hou:L.out.length≤100) (hk:kk≤100) (hO:σ[Oc]? = some (.list (os.map .int))) (ho:∀n∈os,0≤n∧n < 256) (hV:σ[gv]? = some (.list (inp.map .int))) (hi:∀n∈inp,0≤n∧n < 256) (hil:inp.length≤100)
  (hol:os.length≤20) (hr:0≤r∧r≤10) (hb:0≤b∧b≤4294966784) (hb4:b % 4=0) (oO:Oc ∉ fQ We I J) (oV:gv ∉ fQ We I J) (v7:7≤gv) :
  eQ G (yC pm cd n) [("script",.base sc),("well",.dyn We),("base",.int b),("many",.int os.length),("octets",.dyn Oc),("noughts",.int r),("size",.int sz),("given",.dyn gv),("state",.dyn J.d),("machine",.dyn I.m)] σ uA (fun f _ σ'=>dS f = .bool true∧Tabs Q σ') (fun _ _ _=>False):=by
 (refine bC (Y.fD 5 _ rfl) fun pm5 cd5 D5=>?_)
 (refine bC (Y.fD 14 _ rfl) fun pm14 cd14 D14=>?_)
 (refine b8 (Y.lD 5 _ _ rfl) fun pm17 D17=>?_)
 (refine b8 (Y.lD 6 _ _ rfl) fun pm18 D18=>?_)
 have B:=W.B
 have g5:=Y.gN 5 _ rfl
 have g14:=Y.gN 14 _ rfl
 have g17:=Y.gN 17 _ rfl
 have g18:=Y.gN 18 _ rfl
 rw[show uA=[_,_,_] from rfl]
 refine bY<|b6<|bo<|eg<|cr<|bP rfl ‹_› rfl ‹_›<|ai rfl<|ai rfl<|ac<|aD ‹_› ?_
 refine bX (ip W Lg Y hq.M hq.A ag) rfl rfl fun x σ2 q=>?_
 (refine bD q fun u1 u2=>?_;clear q)
 subst u1 u2
 refine aJ<|au (eF rfl)<|bo<|eg<|cr<|bP rfl ‹_› rfl ‹_›<|ai rfl<|ai rfl<|ai rfl<|ac<|aD ‹_› ?_
 refine bX (uS W Lg V Y hq ag hd (q1 0 100 70 600 hk rfl) (q1 0 100 0 800 hou rfl)) rfl rfl fun x σ2 q=>?_
 (refine nM q fun u1 S' J' L' h' K'=>?_;clear q)
 subst u1
 replace hO:=K' _ _ oO hO
 replace hV:=K' _ _ oV hV
 have w1:Wt Q σ2 We N ns (kk+70):=⟨h'.H,h'.tabs⟩
 (refine gq (h'.tabOff (t:=6) (by decide)) fun _ _ _ o4 o5=>?_)
 clear hq K' h' ag
 by_cases c:(os.length:Int)+r > 0
 ·refine aJ<|au (eF rfl)<|cz<|au rfl<|aI<|bY<|b6<|jt<|aY<|aX rfl<|aa rfl<|o2 (fun _=>bh)<|dE (fun _=>fk)<|aR (decide_eq_true ‹_›)<|jt<|eg<|cr<|bP rfl ‹_› rfl ‹_›<|ai rfl<|ai rfl<|ai rfl<|af<|aG<|aX rfl<|aa rfl<|o2 (fun _=>bh)<|i2 (fun _=>cC)<|ac<|aD ‹_› ?_
  refine bX (sg (z:=r) (size:=os.length+r - 1) W Lg Y w1.T hO ho (q1 0 20 0 1000 hol rfl) (⟨hr.1,Int.le_trans hr.2 (by decide)⟩) (jk c) (A2)) rfl rfl fun x σ3 q=>?_
  (refine dA q fun u1 u2 u3=>?_;clear q)
  subst u1
  replace hV:=u3 _ _ (dy (Nat.ne_of_gt v7)) hV
  have w2:Wt Q σ3 We N ns (kk+70):=⟨w1.H.kept u3 (dy o4.symm) (dy o5.symm),u2⟩
  refine aJ<|au (eF rfl)<|au rfl<|aI<|fo<|bF rfl ‹_› rfl ‹_›<|ai rfl<|ai rfl<|ai rfl<|ac<|aD ‹_› ?_
  refine cp (jZ W Lg V O Y w2 hV hi (q1 0 100 0 900 hil rfl) hb hb4 (q1 0 100 70 600 hk rfl)) rfl rfl fun x σ4 q=>?_
  (apply aM)
  exact q
 ·refine aJ<|au (eF rfl)<|cz<|au rfl<|aI<|bY<|b6<|jt<|aY<|aX rfl<|aa rfl<|o2 (fun _=>bh)<|dE (fun _=>fk)<|au (decide_eq_false ‹_›)<|au rfl<|aI<|fo<|bF rfl ‹_› rfl ‹_›<|ai rfl<|ai rfl<|ai rfl<|ac<|aD ‹_› ?_
  refine cp (jZ W Lg V O Y w1 hV hi (q1 0 100 0 900 hil rfl) hb hb4 (q1 0 100 70 600 hk rfl)) rfl rfl fun x σ4 q=>?_
  (apply aM)
  exact q
noncomputable def rf:List Stmt:=(dG (iJ 19 "law" .none 0)).drop 7
theorem sq {os inp:List Int} {b r sz:Int} (W:Wd G D gt bt) (Lg:Gl gt bt D) (V:Dec G Z gt) (O:Ops G gt) (Y:Law G Q gt) (h:Wt Q σ We N ns kk) (hk:kk≤100) (hO:σ[Oc]? = some (.list (os.map .int))) (ho:∀n∈os,0≤n∧n < 256) (hV:σ[gv]? = some (.list (inp.map .int))) (hi:∀n∈inp,0≤n∧n < 256) (hil:inp.length≤100)
  (hol:os.length≤20) (hr:0≤r∧r≤10) (hs:os.length+r≤sz) (hs2:sz≤40) (hb:0≤b∧b≤4294966784) (hb4:b % 4=0) (o7:7≤Oc) (v7:7≤gv) :
  eQ G (yC pm cd n) [("script",.base sc),("well",.dyn We),("base",.int b),("many",.int os.length),("octets",.dyn Oc),("noughts",.int r),("size",.int sz),("given",.dyn gv),("state",.unk),("machine",.unk)] σ rf (fun f _ σ'=>dS f = .bool true∧Tabs Q σ') (fun _ _ _=>False):=by
 (refine bC (Y.fD 5 _ rfl) fun pm5 cd5 D5=>?_)
 (refine bC (Y.fD 14 _ rfl) fun pm14 cd14 D14=>?_)
 (refine bC (Y.fD 15 _ rfl) fun pm15 cd15 D15=>?_)
 (refine b8 (Y.lD 5 _ _ rfl) fun pm17 D17=>?_)
 (refine b8 (Y.lD 6 _ _ rfl) fun pm18 D18=>?_)
 have B:=W.B
 have g5:=Y.gN 5 _ rfl
 have g14:=Y.gN 14 _ rfl
 have g15:=Y.gN 15 _ rfl
 have g17:=Y.gN 17 _ rfl
 have g18:=Y.gN 18 _ rfl
 have gM:=Lg.mach
 have gI:=Lg.image
 have gB:=Lg.bytes
 have gA:=Lg.barr
 rw[show rf=[_,_,_,_,_,_] from rfl]
 refine b5 rfl<|bF rfl ‹_› rfl ‹_›<|ai rfl<|ai rfl<|ai rfl<|ai rfl<|ai rfl<|ac<|aD ‹_› ?_
 refine cp (oE (e:=b) (size:=sz) W Lg Y hO hV (nC hs hr.1) (Int.le_trans hs2 (by decide)) (⟨hb.1,Int.le_trans hb.2 (by decide)⟩)) rfl rfl fun x σ9 q=>?_
 (refine bW q fun J r1 A9 rii K9 rJ=>?_;clear q)
 subst r1
 have hO9:=K9 _ _ hO
 have hol2:os.length≤16777216:=q1 0 20 0 16777216 hol rfl
 (refine wE rfl ?_;refine b5 rfl<|iz ?_;apply ax;assumption;exact rfl;assumption;refine af<|b7 ?_;apply ax;assumption;exact rfl;assumption;refine ai rfl<|ai rfl<|af<|b7 ?_;apply eq;assumption;exact rfl;assumption;refine ai rfl<|ac ?_;refine⟨ok fun _=>by(exact ju),?_⟩;apply dg;exact rfl;assumption;assumption;assumption;refine ai rfl<|af ?_;apply fu;apply ac;refine⟨ok fun _=>by(apply jQ;(assumption)),?_⟩)
 generalize hsy:σ9.length=sy
 have K10:Keep σ9 (σ9++[AO.idict []]) := .app
 generalize σ9++[AO.idict []]=σ10 at K10 ⊢
 refine bX (kU (by simp) W) rfl rfl fun x σ11 q=>?_
 (refine dA q fun r1 r2 r3=>?_;clear q)
 generalize σ10.length=im at r1 r2
 subst r1
 replace K10:=K10.trans r3
 clear r3
 (refine ai rfl<|ac ?_;refine⟨ok fun _=>by(apply lA;(assumption)),?_⟩)
 refine bj (CtP.imp (iT W Lg r2 (by rw[bN];exact q1 0 20 0 1000000 hol rfl) (oZ hs (Int.natCast_nonneg os.length) hr.1) (Int.le_trans hs2 (by decide)) hr.1) (fun x σ12 q=>?_) (fun i σ12 q=>absurd ⟨hb.1,by rw[bN];assumption,nC hb.2 hs2⟩ q.1)) rfl (by decide)
 (refine nN q fun _ I t2 M t4 t5=>?_;clear q)
 subst t2
 clear r2
 have hq:=Hq.new A9 M (K10.trans t4) (fun j hj=>Nat.le_trans K10.len (t5 j hj)) h.H h.T K9 rJ
 have hV9:=t4 _ _ (K10 _ _ (K9 _ _ hV))
 have hO12:=t4 _ _ (K10 _ _ hO9)
 have lO:=am hO
 have lV:=am hV
 have l9:=K9.len
 have l10:=K10.len
 have l12:=t4.len
 have oI:∀j,j < σ.length→j ∉ ({ I with i:=σ12.length }:MI).all:=fun j hj z=>by
  have z':j∈I.all∨j=σ12.length:=by
   simp only[MI.all,lxm,lxn,or_false] at z ⊢
   lia
  rcases z' with z' | z'
  ·have:=t5 j z'
   lia
  ·lia
 have oJ:∀j,j < σ.length→j ∉ J.all:=fun j hj z=>by
  have:=rJ j z
  exact Int.lt_irrefl _ (Int.lt_of_lt_of_le (Int.ofNat_lt.mpr hj) (Int.ofNat_le.mpr this))
 have neW:∀ {j:Nat} {ms:List Int},σ[j]? = some (.list (ms.map .int))→We≠j:=fun {j ms} q=>by
  (refine ci (h.H) fun p c h1 _=>?_)
  exact aO h1 q fun e=>by
   cases ms with
   | nil=>simp at e
   | cons a l=>simp at e
 clear M t4 t5 K10 hO9 A9 K9 rJ
 refine z9 rfl<|aA rfl<|cb rfl ‹_› rfl ‹_›<|ai rfl<|ac<|aT ?_
 refine oc (fun _=>lN hV9 hi (q1 0 100 0 16777216 hil rfl)) ?_
 have hm:=hq.M.m
 refine bJ<|aa rfl<|cT ‹_› (ad ‹_›) rfl ?_
 refine aK (σ₁:=(σ12++[AO.barr (cc inp)]).set I.m (AO.inst D.mach [(Str.ofString "base",AV.int b),(Str.ofString "size",AV.int sz),(Str.ofString "memory",AV.dyn I.me),(Str.ofString "registers",AV.dyn I.r),(Str.ofString "pc",AV.int b),(Str.ofString "output",AV.dyn I.o),(Str.ofString "input",AV.dyn σ12.length),(Str.ofString "taken",AV.int 0),(Str.ofString "steps",AV.int 0),(Str.ofString "status",AV.int 0),(Str.ofString "is_done",AV.bool false),(Str.ofString "known",AV.dyn I.k)])) rfl rfl ?_
 have hq2:=hq.newIn (b:=cc inp) (fs:=[(Str.ofString "base",AV.int b),(Str.ofString "size",AV.int sz),(Str.ofString "memory",AV.dyn I.me),(Str.ofString "registers",AV.dyn I.r),(Str.ofString "pc",AV.int b),(Str.ofString "output",AV.dyn I.o),(Str.ofString "input",AV.dyn σ12.length),(Str.ofString "taken",AV.int 0),(Str.ofString "steps",AV.int 0),(Str.ofString "status",AV.int 0),(Str.ofString "is_done",AV.bool false),(Str.ofString "known",AV.dyn I.k)]) (by rw[bN];exact q1 0 100 0 1000000 hil rfl) rfl
 have ag:=Ag.start (b:=b) (size:=sz) (os:=os) (inp:=inp) hb.1 (nC hb.2 hs2) (nC hs hr.1) (Int.le_trans hs2 (by decide)) ho hi
 have hO13:((σ12++[AO.barr (cc inp)]).set I.m (AO.inst D.mach [(Str.ofString "base",AV.int b),(Str.ofString "size",AV.int sz),(Str.ofString "memory",AV.dyn I.me),(Str.ofString "registers",AV.dyn I.r),(Str.ofString "pc",AV.int b),(Str.ofString "output",AV.dyn I.o),(Str.ofString "input",AV.dyn σ12.length),(Str.ofString "taken",AV.int 0),(Str.ofString "steps",AV.int 0),(Str.ofString "status",AV.int 0),(Str.ofString "is_done",AV.bool false),(Str.ofString "known",AV.dyn I.k)]))[Oc]? = _:=ah (aO hm hO12 (by simp)) (ad hO12)
 have hV13:((σ12++[AO.barr (cc inp)]).set I.m (AO.inst D.mach [(Str.ofString "base",AV.int b),(Str.ofString "size",AV.int sz),(Str.ofString "memory",AV.dyn I.me),(Str.ofString "registers",AV.dyn I.r),(Str.ofString "pc",AV.int b),(Str.ofString "output",AV.dyn I.o),(Str.ofString "input",AV.dyn σ12.length),(Str.ofString "taken",AV.int 0),(Str.ofString "steps",AV.int 0),(Str.ofString "status",AV.int 0),(Str.ofString "is_done",AV.bool false),(Str.ofString "known",AV.dyn I.k)]))[gv]? = _:=ah (aO hm hV9 (by simp)) (ad hV9)
 generalize (σ12++[AO.barr (cc inp)]).set I.m (AO.inst D.mach [(Str.ofString "base",AV.int b),(Str.ofString "size",AV.int sz),(Str.ofString "memory",AV.dyn I.me),(Str.ofString "registers",AV.dyn I.r),(Str.ofString "pc",AV.int b),(Str.ofString "output",AV.dyn I.o),(Str.ofString "input",AV.dyn σ12.length),(Str.ofString "taken",AV.int 0),(Str.ofString "steps",AV.int 0),(Str.ofString "status",AV.int 0),(Str.ofString "is_done",AV.bool false),(Str.ofString "known",AV.dyn I.k)])=σ13 at hq2 hO13 hV13 ⊢
 clear hq hV9 hO12 hm
 have hd0:(yu b sz b os inp).done=false:=rfl
 have ho0:(yu b sz b os inp).out.length=0:=rfl
 refine uE (I:={ I with i:=σ12.length }) W Lg V O Y hq2 ?_ hd0 (q1 0 0 0 100 (Nat.le_of_eq ho0) rfl) hk hO13 ho hV13 hi hil hol hr hb hb4 (nA (oI _ lO) (oJ _ lO) (neW hO) o7) (nA (oI _ lV) (oJ _ lV) (neW hV) v7) v7
 exact ag
theorem xi (W:Wd G D gt bt) (Lg:Gl gt bt D) (V:Dec G Z gt) (O:Ops G gt) (Y:Law G Q gt) (hl:G.g.PlainList sc vs.toArray) (hv:∀π n,VRs π n (ns.map .int) vs) (T:Tabs Q σ) (hz:ns.length≤1000) :
  CtP G 16 σ (.base (Q.fn 19)) [.base sc] (fun r σ'=>r = .bool true∧Tabs Q σ') (fun _ _=>False):=by
 (refine bC (Y.fD 19 _ rfl) fun pm cd DD=>?_)
 (refine bC (Y.fD 0 _ rfl) fun pm0 cd0 D0=>?_)
 have B:=W.B
 have g0:=Y.gN 0 _ rfl
 have gr:=Lg.range
 have gx:=Lg.max
 refine ic ["script"] yA uB yB (yA.tail) 15 (cvs:=[none]) (lv:=[("script",.base sc),("well",.unk),("base",.unk),("many",.unk),("octets",.unk),("noughts",.unk),("size",.unk),("given",.unk),("state",.unk),("machine",.unk)]) DD (by kernel_rfl) (fun _=>rfl) rfl (jH fun _=>rfl) rfl (by
  with_unfolding_all rfl) (by with_unfolding_all rfl) ?_
 have ls:(bi uB σ.length).lookup (Str.ofString "seed")=some σ.length:=bR 0 rfl (by decide +kernel)
 have ce:Ce (σ++[(none:Option AV)].map AO.cell) σ.length [none]:=Ce.new
 have tb:=T.keep (σ':=σ++[(none:Option AV)].map AO.cell) .app
 have h7:7≤σ.length:=by
  (refine aF (T 6 (by decide)) fun ts h1 _=>?_)
  have:=am h1
  assumption
 generalize σ++[(none:Option AV)].map AO.cell=σ0 at ce tb
 generalize hn:σ.length=n at ls ce h7
 refine aA rfl<|aP<|af ?_
 refine wd [] (fun n=>n % 2305843009213693951) rfl ⟨by decide +kernel,rfl,by decide +kernel,by decide +kernel⟩ (fun env f h=>Bd (by decide +kernel)) (by simp) ?_
 (refine bg<|aa rfl<|kc<|bf ?_;refine⟨_,rfl,?_⟩)
 refine zO hl hv (by(apply aj;simp only[lxS,lxA,lxC,lxN,lxY,lxZ,Nat.reduceAdd];simp only[bS,bT,Int.reduceToNat,lxg,lxh];rfl)) (q1 0 1000 0 16777216 hz rfl) (by intro _ _;with_unfolding_all rfl) ?_
 skip
 refine⟨cut ns none (some 63),fun A hh=>vB hh (by(apply aj;simp only[lxS,lxA,lxC,lxN,lxY,lxZ,Nat.reduceAdd];simp only[bS,bT,Int.reduceToNat,lxg,lxh])),Nat.le_trans (dM ..) (q1 0 1000 0 16777216 hz rfl),fun F c π D' s₃ m₃ n t hn h1 h2 h3=>qD (jx ⟨by decide +kernel,rfl,by decide +kernel,by decide +kernel⟩ h1 h2 (by decide)) f8 (by decide),?_⟩
 have hnl:((cut ns none (some 63)).map fun n=>n % 2305843009213693951).length < 1000:=by
  rw[List.length_map]
  have:=Bc (ns:=ns)
  exact q1 0 63 1 1000 this rfl
 generalize (cut ns none (some 63)).map (fun n=>n % 2305843009213693951)=numbers at hnl
 refine az<|az<|ac<|And.intro (bZ (by(simp only[lxC,lxN,lxA,lxM,lxS,List.length_replicate];decide)))<|aw rfl<|aK (by simp only[bK,aE,bS,bT,cK,lxa,bV,bU,lxA,lxM,lxS,lxC,lxN,lxY,lxZ,Nat.reduceAdd,put,aN,String.reduceEq,reduceIte,List.set_set];rfl) (by simp only[bK,aE,bS,bT,cK,lxa,bV,bU,lxA,lxM,lxS,lxC,lxN,lxY,lxZ,Nat.reduceAdd,put,aN,String.reduceEq,reduceIte,List.set_set];rfl)<|aA rfl<|bg<|aP<|az<|az<|az<|az<|ac<|aL rfl<|bP rfl ‹_› rfl ‹_›<|ai rfl<|az<|ac<|aD ‹_› ?_
 have lσ:=am (ce.zero rfl)
 have w0:Wt Q (σ0++[AO.slc none (some 63),AO.list (List.map AV.int (cut ns none (some 63))),AO.list (List.map AV.int numbers),AO.list [AV.dyn (σ0.length+2),AV.int 0,AV.int 19]]++[AO.list [AV.int 64,AV.int 4096,AV.int 0,AV.int 4294966784]]) (σ0.length+3) (σ0.length+2) numbers 0:=⟨⟨0,19,by(apply ad;apply cE;simp only[lxS,lxA,lxC,lxN,lxY,lxZ,Nat.reduceAdd];simp only[bS,bT,Int.reduceToNat,lxg,lxh]),by decide,by decide,by(apply ad;apply cE;simp only[lxS,lxA,lxC,lxN,lxY,lxZ,Nat.reduceAdd];simp only[bS,bT,Int.reduceToNat,lxg,lxh]),hnl⟩,(tb.keep .app).keep .app⟩
 have ce0:Ce (σ0++[AO.slc none (some 63),AO.list (List.map AV.int (cut ns none (some 63))),AO.list (List.map AV.int numbers),AO.list [AV.dyn (σ0.length+2),AV.int 0,AV.int 19]]++[AO.list [AV.int 64,AV.int 4096,AV.int 0,AV.int 4294966784]]) n [none]:=ce.app.app
 have hls:(σ0++[AO.slc none (some 63),AO.list (List.map AV.int (cut ns none (some 63))),AO.list (List.map AV.int numbers),AO.list [AV.dyn (σ0.length+2),AV.int 0,AV.int 19]]++[AO.list [AV.int 64,AV.int 4096,AV.int 0,AV.int 4294966784]])[(σ0++[AO.slc none (some 63),AO.list (List.map AV.int (cut ns none (some 63))),AO.list (List.map AV.int numbers),AO.list [AV.dyn (σ0.length+2),AV.int 0,AV.int 19]]).length]? = some (.list [AV.int 64,AV.int 4096,AV.int 0,AV.int 4294966784]):=aj rfl rfl
 have hWe:∀i < [(none:Option AV)].length,σ0.length+3≠n+i:=fun i hi=>by simp at hi;exact Nat.ne_of_gt (mI (Nat.le_of_eq hi) lσ)
 have hWe2:∀v:Option AV,∀i < [v].length,σ0.length+3≠n+i:=fun v i hi=>by simp at hi;exact Nat.ne_of_gt (mI (Nat.le_of_eq hi) lσ)
 have hlW:(σ0++[AO.slc none (some 63),AO.list (List.map AV.int (cut ns none (some 63))),AO.list (List.map AV.int numbers),AO.list [AV.dyn (σ0.length+2),AV.int 0,AV.int 19]]).length≠σ0.length+3:=by simp
 refine bX (mT (m:=4) W Lg Y w0 ce0 hWe (Nat.succ_pos _) (by decide)) rfl rfl fun x σ1 q=>?_
 (refine bW q fun v r1 bv w1 ce1 K1=>?_;clear q)
 subst r1
 replace hls:=K1 _ _ (dy hlW) hls
 obtain⟨b,hb,hb4,hx⟩:∃b:Int,(0≤b∧b≤4294966784)∧b % 4=0∧([AV.int 64,AV.int 4096,AV.int 0,AV.int 4294966784])[v.toNat]? = some (AV.int b):=by
  have:v=0∨v=1∨v=2∨v=3:=v4 bv
  rcases this with rfl | rfl | rfl | rfl<;>exact⟨_,by decide,by decide,rfl⟩
 refine bu hls bv.1 (Int.lt_of_lt_of_le bv.2 (by decide)) hx (by intro _ _;with_unfolding_all rfl) ?_
 clear hls hx bv K1 w0 ce0 ce tb
 generalize σ0.length+3=We at w1 hWe hWe2 ⊢
 generalize σ0.length+2=N at w1
 refine aw rfl ?_
 with_reducible apply ap
 refine aW (ej "seed" _ (.tail _ (.head _)) rfl (by exact rfl) ?_)
 refine b9<|af<|bP rfl ‹_› rfl ‹_›<|ai rfl<|az<|ac<|aD ‹_› ?_
 refine bX (mT (m:=20) W Lg Y w1 ce1 hWe (by decide) (by decide)) rfl rfl fun x σ2 q=>?_
 (refine bW q fun ma r1 bma w2 ce2 _=>?_;clear q)
 subst r1
 refine af<|bP rfl ‹_› rfl ‹_›<|ai rfl<|az<|ac<|aD ‹_› ?_
 refine bX (mT (m:=1099511627776) W Lg Y w2 ce2 hWe (by decide) (by decide)) rfl rfl fun x σ3 q=>?_
 (refine bW q fun se r1 bse w3 ce3 _=>?_;clear q)
 subst r1
 have hcs:=ce3.zero rfl
 (refine ac<|And.intro (bZ (by(simp only[lxC,lxN,lxA,lxM,lxS,List.length_replicate];decide))) ?_;apply ig;exact rfl;(apply aj;simp only[lxS,lxA,lxC,lxN,lxY,lxZ,Nat.reduceAdd];simp only[bS,bT,Int.reduceToNat,lxg,lxh];rfl);exact rfl;(intro _);rfl;(intro _);rfl;refine bQ<|aw rfl<|bQ<|de rfl rfl ‹_› (ad ‹_›)<|dP<|ap<|aW ?_)
 replace w3:=(w3.app (l:=[AO.tuple [AV.int ma,AV.int se]])).cell (a:=some (.int se)) (ad hcs)
 have ce4:=(ce3.app (l:=[AO.tuple [AV.int ma,AV.int se]])).set (j:=0) (a:=some (.int se)) rfl
 have hc4:=ce4.zero rfl
 clear ce1 ce2 ce3 hcs w1 w2
 generalize (σ3++[AO.tuple [AV.int ma,AV.int se]]).set n (AO.cell (some (AV.int se)))=σ4 at w3 ce4 hc4 ⊢
 refine mZ [("seed",n)] (fun q=>(se / 3 ^ q.toNat+41*q) % 256) rfl ⟨by decide +kernel,rfl,by decide +kernel,by decide +kernel⟩ (fun env f h=>by unfold closureFor cellOf;rw[h];rfl) (fun p hp=>?_) (by exact rfl) rfl (by decide +kernel) ?_
 ·simp only[lxm,lxn,or_false] at hp
  subst hp
  exact am hc4
 refine cb rfl ‹_› rfl ‹_›<|ai rfl<|ac<|aT<|fw ?_
 refine⟨(List.range ma.toNat).map fun(j:Nat)=>(j:Int),fun A hh=>mY hh (by(apply aj;simp only[lxS,lxA,lxC,lxN,lxY,lxZ,Nat.reduceAdd];simp only[bS,bT,Int.reduceToNat,lxg,lxh])) (Int.lt_of_lt_of_le bma.2 (by decide)) (Int.le_of_lt (Int.lt_of_lt_of_le (by decide) bma.1)),by simp;exact Int.le_of_lt (Int.lt_of_lt_of_le bma.2 (by decide)),fun F c π D' s₃ m₃ nn t' hn h1' h2' h3'=>?_,?_⟩
 ·(refine b8 (h3' ("seed",n) (by simp) se (by(apply ad;assumption))) fun t2 ht2=>?_)
  (refine aF (List.mem_map.mp hn) fun m hm1 zz44=>?_;subst zz44)
  have hm2:m < 20:=by have:=List.mem_range.mp hm1;lia
  have p1:∀m < 20,0 < (3:Int) ^ m∧(3:Int) ^ m < 2 ^ 64:=by decide
  exact qD (vF (zy (rF c rfl (by exact rfl) rfl (by decide +kernel) rfl ht2 (by decide)) (zx f8 (jx ⟨by decide +kernel,rfl,by decide +kernel,by decide +kernel⟩ h1' h2' (by decide)) (Int.natCast_nonneg _) (Int.le_of_lt (Int.lt_of_lt_of_le (Int.ofNat_lt.mpr hm2) (by decide))) (by decide)) (p1 m hm2).1 (p1 m hm2).2) (vC f8 (jx ⟨by decide +kernel,rfl,by decide +kernel,by decide +kernel⟩ h1' h2' (by decide)) (kL (by decide) (by decide)))) f8 (by decide)
 have hor:∀q∈((List.range ma.toNat).map fun(j:Nat)=>(j:Int)).map (fun q=>(se / 3 ^ q.toNat+41*q) % 256),0≤q∧q < 256:=fun q hq=>by
  (refine aF (List.mem_map.mp hq) fun z _ zz46=>?_;subst zz46)
  exact⟨Int.emod_nonneg _ (by decide),Int.emod_lt_of_pos _ (by decide)⟩
 have hol:((((List.range ma.toNat).map fun(j:Nat)=>(j:Int)).map (fun q=>(se / 3 ^ q.toNat+41*q) % 256)).length:Int)=ma:=by simp;lia
 generalize ((List.range ma.toNat).map fun(j:Nat)=>(j:Int)).map (fun q=>(se / 3 ^ q.toNat+41*q) % 256)=os at hor hol
 subst hol
 refine aK (by simp only[bK,aE,bS,bT,cK,lxa,bV,bU,lxA,lxM,lxS,lxC,lxN,lxY,lxZ,Nat.reduceAdd,put,aN,String.reduceEq,reduceIte,List.set_set];rfl) (by simp only[bK,aE,bS,bT,cK,lxa,bV,bU,lxA,lxM,lxS,lxC,lxN,lxY,lxZ,Nat.reduceAdd,put,aN,String.reduceEq,reduceIte,List.set_set];rfl)<|aW<|dV rfl (by exact rfl) (by exact rfl) rfl (by rw[bG];rfl) rfl rfl rfl<|b9<|af<|bP rfl ‹_› rfl ‹_›<|ai rfl<|az<|ac<|aD ‹_› ?_
 have lW:=w3.H.lt
 have ln:=am hc4
 have o7:7≤σ4.length+1:=q2 7 0 1 0 7 1 h7 ln rfl
 have hOW:σ4.length+1≠We:=Nat.ne_of_gt (q1 1 0 1 1 lW rfl)
 have hO:(σ4++[AO.rng 0 (os.length:Int),AO.list (List.map AV.int os)])[σ4.length+1]? = some (.list (os.map .int)):=cE rfl rfl
 replace w3:=w3.app (l:=[AO.rng 0 (os.length:Int),AO.list (List.map AV.int os)])
 replace ce4:=ce4.app (l:=[AO.rng 0 (os.length:Int),AO.list (List.map AV.int os)])
 generalize σ4++[AO.rng 0 (os.length:Int),AO.list (List.map AV.int os)]=σ5 at hO w3 ce4 ⊢
 clear hc4 ln
 generalize σ4.length+1=Oc at o7 hOW hO ⊢
 refine bX (mT (m:=6) W Lg Y w3 ce4 (hWe2 _) (by decide) (by decide)) rfl rfl fun x σ6 q=>?_
 (refine bW q fun r r1 br w6 ce6 K6=>?_;clear q)
 subst r1
 replace hO:=K6 _ _ (dy hOW) hO
 clear K6 w3 ce4
 refine af<|aG<|aX rfl<|i2 (fun _=>bh)<|bP rfl ‹_› rfl ‹_›<|ai rfl<|az<|ac<|aD ‹_› ?_
 refine bX (mT (m:=9) W Lg Y w6 ce6 (hWe2 _) (by decide) (by decide)) rfl rfl fun x σ7 q=>?_
 (refine bW q fun ex r1 bex w7 ce7 K7=>?_;clear q)
 subst r1
 replace hO:=K7 _ _ (dy hOW) hO
 clear K7 w6 ce6
 (refine o2 (fun _=>bh)<|ac<|And.intro (bZ (by(simp only[lxC,lxN,lxA,lxM,lxS,List.length_replicate];decide))) ?_;apply Exists.intro;apply Exists.intro;apply Exists.intro;refine And.intro rfl ?_;apply And.intro;(apply aj;simp only[lxS,lxA,lxC,lxN,lxY,lxZ,Nat.reduceAdd];simp only[bS,bT,Int.reduceToNat,lxg,lxh];rfl);apply aK;dsimp only[bS,bT,cK,bV,bU];(simp only[bK,aE,bS,bT,cK,lxa,bV,bU,lxA,lxM,lxS,lxC,lxN,lxY,lxZ,Nat.reduceAdd,put,aN,String.reduceEq,reduceIte,List.set_set];rfl);refine aW ?_)
 replace hO:=ad (l:=[AO.tuple [AV.int r,AV.int ((os.length:Int)+4+ex)]]) hO
 replace w7:=w7.app (l:=[AO.tuple [AV.int r,AV.int ((os.length:Int)+4+ex)]])
 replace ce7:=ce7.app (l:=[AO.tuple [AV.int r,AV.int ((os.length:Int)+4+ex)]])
 generalize σ7++[AO.tuple [AV.int r,AV.int ((os.length:Int)+4+ex)]]=σ8 at hO w7 ce7 ⊢
 have hc7:=ce7.zero rfl
 refine mZ [("seed",n)] (fun q=>(se+7*q) % 256) rfl ⟨by decide +kernel,rfl,by decide +kernel,by decide +kernel⟩ (fun env f h=>by unfold closureFor cellOf;rw[h];rfl) (fun p hp=>?_) (by exact rfl) rfl (by decide +kernel) ?_
 ·simp only[lxm,lxn,or_false] at hp
  subst hp
  exact am hc7
 refine cb rfl ‹_› rfl ‹_›<|af<|bP rfl ‹_› rfl ‹_›<|ai rfl<|az<|ac<|aD ‹_› ?_
 refine bX (mT (m:=4) W Lg Y w7 ce7 (hWe2 _) (by decide) (by decide)) rfl rfl fun x σ9 q=>?_
 (refine bW q fun gn r1 bgn w9 ce9 K9=>?_;clear q)
 subst r1
 replace hO:=K9 _ _ (dy hOW) hO
 have hc9:=ce9.zero rfl
 clear K9 w7 ce7 hc7
 refine ac<|aT<|fw ?_
 refine⟨(List.range gn.toNat).map fun(j:Nat)=>(j:Int),fun A hh=>mY hh (by(apply aj;simp only[lxS,lxA,lxC,lxN,lxY,lxZ,Nat.reduceAdd];simp only[bS,bT,Int.reduceToNat,lxg,lxh])) (Int.lt_of_lt_of_le bgn.2 (by decide)) (Int.le_of_lt (Int.lt_of_lt_of_le (by decide) bgn.1)),by simp;exact Int.le_of_lt (Int.lt_of_lt_of_le bgn.2 (by decide)),fun F c π D' s₃ m₃ nn t' hn h1' h2' h3'=>?_,?_⟩
 ·(refine b8 (h3' ("seed",n) (by simp) se (by(apply ad;assumption))) fun t2 ht2=>?_)
  exact qD (vF (rF c rfl (by exact rfl) rfl (by decide +kernel) rfl ht2 (by decide)) (vC f8 (jx ⟨by decide +kernel,rfl,by decide +kernel,by decide +kernel⟩ h1' h2' (by decide)) (kL (by decide) (by decide)))) f8 (by decide)
 have hir:∀q∈((List.range gn.toNat).map fun(j:Nat)=>(j:Int)).map (fun q=>(se+7*q) % 256),0≤q∧q < 256:=fun q hq=>by
  (refine aF (List.mem_map.mp hq) fun z _ zz60=>?_;subst zz60)
  exact⟨Int.emod_nonneg _ (by decide),Int.emod_lt_of_pos _ (by decide)⟩
 have hil:(((List.range gn.toNat).map fun(j:Nat)=>(j:Int)).map (fun q=>(se+7*q) % 256)).length≤100:=by simp;exact Int.le_of_lt (Int.lt_of_lt_of_le bgn.2 (by decide))
 generalize ((List.range gn.toNat).map fun(j:Nat)=>(j:Int)).map (fun q=>(se+7*q) % 256)=inp at hir hil
 have l9:=am hc9
 have v7:7≤σ9.length+1:=q2 7 0 1 0 7 1 h7 l9 rfl
 refine aK (by simp only[bK,aE,bS,bT,cK,lxa,bV,bU,lxA,lxM,lxS,lxC,lxN,lxY,lxZ,Nat.reduceAdd,put,aN,String.reduceEq,reduceIte,List.set_set];rfl) (by simp only[bK,aE,bS,bT,cK,lxa,bV,bU,lxA,lxM,lxS,lxC,lxN,lxY,lxZ,Nat.reduceAdd,put,aN,String.reduceEq,reduceIte,List.set_set];rfl)<|aA rfl<|cb rfl ‹_› rfl ‹_›<|ai rfl<|af<|aX rfl<|aa rfl<|o2 (fun _=>bh)<|ac<|aB<|wo rfl<|aw rfl ?_
 with_reducible apply ap
 exact sq W Lg V O Y w9.app (by decide) (ad hO) hor (cE rfl rfl) hir hil (by lia) ⟨br.1,Int.le_of_lt (Int.lt_of_lt_of_le br.2 (by decide))⟩ (Int.le_max_right _ _) (by lia) hb hb4 o7 v7
end
section
noncomputable def freed (h:Heap) (P:Addr):Heap:=h.update P fun o=>{ o with data := .freed }
noncomputable def AH (K:Frag):Bool:=K.all fun p=>match p.2 with
 | ⟨.none,none,.fields _,_⟩=>false
 | _=>true
noncomputable def BI (K:Frag) (N:Addr) (x:Str):Option Value:=match K.lookup N with
 | some o=>(match o.data with | .dict es _=>nsFind es x | _=>none)
 | none=>none
noncomputable def yK (K:Frag) (N:Addr):Bool:=match K.lookup N with
 | some o=>(match o.data with | .dict es _=>es.all (fun e=>match e.key with | .str _ _=>true | _=>false) | _=>false)
 | none=>false
theorem kl {K:Frag} (X:K.In g) (e:(K.lookup N).isSome=true):g.nsMap N x=BI K N x:=by
 (refine b8 (Option.isSome_iff_exists.mp e) fun o ho=>?_)
 unfold Heap.nsMap BI
 rw[X _ _ ho,ho]
 rfl
theorem zu {K:Frag} (X:K.In g) (e:yK K N=true):g.Ns N (g.nsMap N):=by
 refine Heap.Ns.of_isNs ?_
 unfold yK at e
 unfold Heap.isNs
 cases q:K.lookup N with
 | none=>rw[q] at e;cases e
 | some o=>rw[q] at e;rw[X _ _ q];exact e
theorem yL {K:Frag} (X:K.In G.g) (N:G.g.Ns mainGlobals mg) (e:nsIn K mainGlobals x=some (some v)) (h:∀π n,VR π n a v):iX G mainGlobals x a:=⟨mg,v,N,mg_of X N e,h⟩
theorem CZ {K:Frag} (X:K.In G.g) (N:G.g.Ns mainGlobals mg) (M:G.g.Ns builtinsNs mb) (hb:∀x:Str,x ≠ "__name__" → mb x=bootBuiltins x) (e:nsIn K mainGlobals x=some none) (hx:x ≠ "__name__") (hv:bootBuiltins x=some v) (h:∀π n,VR π n a v):pO G mainGlobals builtinsNs x a :=
 ⟨mg,mb,v,N,mg_none_of X N e,M,(hb x hx).trans hv,h⟩
theorem pT {P:Str→AV→Prop}:∀ {l:List (Str×AV)},(∀p∈l,P p.1 p.2)→∀x a,l.lookup x=some a→P x a
 | [],_,_,_,h=>by cases h
 | (y,b)::l,H,x,a,h=>by
  rw[List.lookup_cons] at h
  cases q:x==y with
  | true=>rw[q] at h;cases h;rw[eq_of_beq q];exact H _ (List.mem_cons_self ..)
  | false=>rw[q] at h;exact pT (fun p hp=>H p (List.mem_cons_of_mem _ hp)) x a h
noncomputable def Af (K:Frag) (a:Addr):FuncData:=match K.lookup a with
 | some ⟨_,_,.func fd,_⟩=>fd
 | _=>default
noncomputable def xu (K:Frag) (a:Addr):Addr:=match (Af K a).code with
 | .ref c=>c
 | _=>0
noncomputable def uV (K:Frag) (c:Addr):Option Str:=match K.lookup c with
 | some ⟨_,_,Data.fields vs,_⟩=>(match (vs[1]? : Option Value) with | some (Value.str q _)=>some q | _=>none)
 | _=>none
theorem sI {K:Frag} (X:K.In g) (e:uV K c=some q):g.CodeRec (.ref c) q:=by
 unfold uV at e
 split at e
 ·rename_i cl d vs sl h
  split at e
  ·rename_i q' t h'
   cases e
   exact⟨c,_,vs,t,rfl,X _ _ h,rfl,h'⟩
  ·cases e
 ·cases e
theorem CS {K:Frag} (X:K.In G.g) (e:(K.lookup a).map (·.cls)=some (.type "function")):FnAt G a:=by
 (refine aF (Option.map_eq_some_iff.mp e) fun o h1 h2=>?_)
 exact⟨o,X _ _ h1,h2⟩
noncomputable def KeysInt:List DictEntry→Prop
 | []=>True
 | e::r=>(∃k t,e.key = .int k t∧e.hash=hashInt k)∧KeysInt r
theorem KeysInt.all (H:KeysInt l) (e:DictEntry) (m:e∈l):∃k t,e.key = .int k t∧e.hash=hashInt k:=by
 induction l with
 | nil=>exact absurd m List.not_mem_nil
 | cons a l ih =>
  (refine bD H fun h r=>?_;clear H)
  rcases List.mem_cons.mp m with q | q
  ·rw[q];exact h
  ·exact ih r q
theorem yR {K:Frag} (X:K.In G.g) (hl:K.lookup a=some ⟨.type "dict",none,.dict es n,#[]⟩) (hk:KeysInt es.toList) (hs:(a==sysModules)=false):TabI G a (fun k=>findBy Value.isInt es k) :=
 ⟨⟨_,es,n,X _ _ hl,⟨rfl,rfl,rfl⟩,rfl,fun e he=>(by
  (refine ci (hk.all e (Array.mem_toList_iff.mpr he)) fun k t e1 e2=>?_)
  exact⟨k,by rw[e1];simp[intKind,Value.isInt],e2⟩),fun _=>rfl⟩,hs⟩
theorem gO {K:Frag} (X:K.In G.g) (hl:K.lookup a=some ⟨.type "dict",none,.dict es n,#[]⟩) (hk:KeysLit G.w.params es.toList) (hs:(a==sysModules)=false):TabS G a (fun k=>findBy Value.isStrOf es k):=⟨mapOf_K X hl hk,hs⟩
noncomputable def uL (K:Frag) (x:Str) (i:Int):Bool:=match nsIn K mainGlobals x with
 | some (some (.int j _))=>j==i
 | _=>false
noncomputable def un (K:Frag) (x:Str) (a:Addr):Bool:=match nsIn K mainGlobals x with
 | some (some (.ref b))=>b==a
 | _=>false
theorem AZ {K:Frag} (X:K.In G.g) (N:G.g.Ns mainGlobals mg) (e:uL K x i=true):iX G mainGlobals x (.int i):=by
 unfold uL at e
 split at e
 ·rename_i j t h
  obtain rfl:j=i:=eq_of_beq e
  exact yL X N h fun _ _=>⟨t,rfl⟩
 ·cases e
theorem A0 {K:Frag} (X:K.In G.g) (N:G.g.Ns mainGlobals mg) (e:un K x a=true):iX G mainGlobals x (.base a):=by
 unfold un at e
 split at e
 ·rename_i j h
  obtain rfl:j=a:=eq_of_beq e
  exact yL X N h fun _ _=>rfl
 ·cases e
noncomputable def xn (K:Frag) (gt:List (Str×AV)):Bool:=gt.all fun p=>match p.2 with
 | .int i=>uL K p.1 i
 | .base a=>un K p.1 a
 | _=>false
theorem AY {K:Frag} (X:K.In G.g) (N:G.g.Ns mainGlobals mg) (e:xn K gt=true):∀p∈gt,iX G mainGlobals p.1 p.2:=fun p hp=>by
 have:=List.all_eq_true.mp e p hp
 obtain⟨x,a⟩:=p
 cases a with
 | int i=>exact AZ X N this
 | base a=>exact A0 X N this
 | _=>cases this
theorem kV {α β:Type} {f g:Nat→α→β} {l:List α} (h:l.zipIdx.map (fun p=>f p.2 p.1)=l.zipIdx.map fun p=>g p.2 p.1) (i:Nat) (x:α) (e:l[i]? = some x):f i x=g i x:=List.map_inj_left.mp h (x,i) (List.mem_zipIdx_iff_getElem?.mpr e)
noncomputable def BR (K:Frag) (a:Addr):Option Data×Option Str×Value:=((K.lookup a).map (·.data),uV K (xu K a),.ref (xu K a))
noncomputable def BQ (K:Frag) (a:Addr) (fd:Value→Addr→FuncData):Option Data×Option Str×Value:=(some (.func (fd (Af K a).pyModule (xu K a))),some (fd (Af K a).pyModule (xu K a)).qualname,(fd (Af K a).pyModule (xu K a)).code)
theorem pd {K:Frag} (X:K.In G.g) (lim:G.g.NoLimit) (e:BR K a=BQ K a fd):DefAt G a (fd (Af K a).pyModule (xu K a)):=by
 (refine aF (Option.map_eq_some_iff.mp (congrArg (·.1) e)) fun o h1 h2=>?_)
 have hc:(fd (Af K a).pyModule (xu K a)).code = .ref (xu K a):=(congrArg (·.2.2) e).symm
 exact⟨⟨o,X _ _ h1,h2⟩,lim,by rw[hc];exact sI X (congrArg (·.2.1) e)⟩
theorem CW {fd:Value→Addr→FuncData} (h:DefAt G a (fd pm c)) (e:c=d):DefAt G a (fd pm d):=e ▸ h
theorem oS {K:Frag} {l:List String} (X:K.In g) (e:(K.lookup N).isSome=true) (h:l.map (fun x=>BI K N (Str.ofString x))=l.map fun _=>none) (x:String) (hx:x∈l):g.nsMap N (Str.ofString x)=none:=(kl X e).trans (List.map_inj_left.mp h x hx)
noncomputable def uI (l:List DictEntry):Bool:=l.all fun e=>match e.key with
 | .int k _=>e.hash==hashInt k
 | _=>false
theorem qa (h:uI l=true):KeysInt l:=by
 induction l with
 | nil=>trivial
 | cons e l ih =>
  have h:=Bool.and_eq_true_iff.mp h
  refine⟨?_,ih h.2⟩
  obtain⟨hs,k,v⟩:=e
  cases k<;>first | exact⟨_,_,rfl,eq_of_beq h.1⟩ | exact absurd h.1 Bool.false_ne_true
noncomputable def tX:DictEntry→Str×Tok
 | ⟨_,.str s t,_⟩=>(s,t)
 | _=>(Str.ofString "",0)
theorem dn (h:l.map (fun e=>(e.hash,e.key))=l.map fun e=>(PyData.keyHash P (tX e).1,Value.str (tX e).1 (tX e).2)):KeysLit P l:=by
 induction l with
 | nil=>trivial
 | cons e l ih =>
  injection h with h1 h2
  exact⟨⟨_,_,congrArg (·.2) h1,congrArg (·.1) h1⟩,ih h2⟩
end
section
variable {G:Gd} {mg mb:Str→Option Value}
noncomputable abbrev pD (w:World):Frag:=Ai w.params
noncomputable def Bn:Ad:=⟨31,30,28,628,627,fun i=>[534,541,548,555,562,569,576,583,590,597,604,611,618,625].getD i 0,649,648,646⟩
noncomputable def Bb:DAd:=⟨139,35,84,86,108,109,341,348,355⟩
noncomputable abbrev nB (x:String) (a:Addr):Str×AV:=(Str.ofString x,.base a)
noncomputable abbrev nI (x:String) (i:Int):Str×AV:=(Str.ofString x,.int i)
noncomputable abbrev nT (x t:String):Str×AV:=(Str.ofString x,.type t)
noncomputable abbrev nF (x t:String):Str×AV:=(Str.ofString x,.builtin t)
noncomputable def sx:List (Str×AV):=nB "Trap" 31::nI "WORD_MASK" 4294967295::nI "LUI" 55::nI "AUIPC" 23::nI "JAL" 111::nI "WITH_IMM" 19::nI "WITH_REG" 51::nI "FENCE" 15::nI "SYSTEM" 115::nB "INSTRUCTIONS" 35::nB "PLACES" 86::nB "BOUNDS" 109::nB "NAMES_BY_BASE" 139::nB "name_of" 341::nB "decode" 348::nI "SP" 2::nI "A0" 10::nI "A7" 17::nI "SIGN" 2147483648::nI "EXIT" 93::nI "PUT" 1::nI "GET" 2::nB "signed_word" 355::nB "WITH_REGISTERS" 510::nB "WITH_NUMBERS" 512::nB "BRANCHES" 513::nB "LOADS" 514::nB "STORES" 520::nB "Machine" 628::nB "Image" 649::nI "_law_all" 4294967296::nB "_law_draw" 660::nB "_law_where" 667::nB "_law_faults" 674::nB "_law_weighed" 681::nB "_law_outer" 688::nB "_law_stands" 695::nB "_law_told" 702::nB "_law_agrees" 709::nB "_law_stored" 716::nB "_law_loaded" 723::nB "_law_row_read" 730::nB "_law_register_put" 737::nB "_law_called" 744::nB "_law_jumped" 751::nB "_law_deeds_right" 758::nB "_law_state" 765::nB "_law_walk" 772::nB "_law_run_right" 779::nB "_law_no_room" 786::nB "law" 791::[]
noncomputable def xv:List (Str×AV):=[nT "Exception" "Exception",nT "int" "int",nT "bytes" "bytes",nT "bytearray" "bytearray",nF "len" "len",nF "min" "min",nF "max" "max",nT "range" "range"]
theorem ze (X:(pD G.w).In G.g) (N:G.g.Ns mainGlobals mg):∀p∈sx,iX G mainGlobals p.1 p.2:=AY X N (by kernel_rfl)
theorem Bg (X:(pD G.w).In G.g) (N:G.g.Ns mainGlobals mg) (M:G.g.Ns builtinsNs mb) (hb:∀x:Str,x ≠ "__name__" → mb x=bootBuiltins x):∀p∈xv,pO G mainGlobals builtinsNs p.1 p.2:=by
 have go:∀ (x:String) (a:AV) (v:Value),nsIn (pD G.w) mainGlobals (Str.ofString x)=some none→Str.ofString x ≠ "__name__" → bootBuiltins (Str.ofString x)=some v→(∀π n,VR π n a v)→pO G mainGlobals builtinsNs (Str.ofString x) a:=fun x a v e h1 h2 h3=>CZ X N M hb e h1 h2 h3
 intro p hp
 simp only[xv,lxm,lxn,or_false] at hp
 rcases hp with rfl | rfl | rfl | rfl | rfl | rfl | rfl | rfl
 ·exact go "Exception" _ (.type "Exception") (by kernel_rfl) (by decide) (by boot_fast) fun _ _=>rfl
 ·exact go "int" _ (.type "int") (by kernel_rfl) (by decide) (by boot_fast) fun _ _=>rfl
 ·exact go "bytes" _ (.type "bytes") (by kernel_rfl) (by decide) (by boot_fast) fun _ _=>rfl
 ·exact go "bytearray" _ (.type "bytearray") (by kernel_rfl) (by decide) (by kernel_rfl) fun _ _=>rfl
 ·exact go "len" _ (.builtin "len") (by kernel_rfl) (by decide) (by boot_fast) fun _ _=>rfl
 ·exact go "min" _ (.builtin "min") (by kernel_rfl) (by decide) (by boot_fast) fun _ _=>rfl
 ·exact go "max" _ (.builtin "max") (by kernel_rfl) (by decide) (by boot_fast) fun _ _=>rfl
 ·exact go "range" _ (.type "range") (by kernel_rfl) (by decide) (by boot_fast) fun _ _=>rfl
end
section
variable {G:Gd} {mg mb:Str→Option Value}
theorem B9 (X:(pD G.w).In G.g) (lim:G.g.NoLimit) (N:G.g.Ns mainGlobals mg) (M:G.g.Ns builtinsNs mb) (hb:∀x:Str,x ≠ "__name__" → mb x=bootBuiltins x) (hs:jR G):Wd G Bn sx xv where
 B:=⟨fun x a h=>pT (ze X N) x a h,fun x a h=>pT (Bg X N M hb) x a h⟩
 sys:=hs
 trapC:=⟨⟨_,_,_,_,_,_,_,_,_,_,_,_,X 31 _ rfl⟩,zu X (by kernel_rfl)⟩
 trapD:=⟨_,_,pd X lim (fd:=m9) (by kernel_rfl)⟩
 trapF:=CS X (by kernel_rfl)
 trapIn:=(kl X (by kernel_rfl)).trans (by kernel_rfl)
 trapNo:=oS X (by kernel_rfl) (by kernel_rfl)
 machC:=⟨⟨_,_,_,_,_,_,_,_,_,_,_,_,_,X 628 _ rfl,fun _=>rfl⟩,zu X (by kernel_rfl)⟩
 machNo:=oS X (by kernel_rfl) (by kernel_rfl)
 machFs:=oS X (by kernel_rfl) (by kernel_rfl)
 machM:=fun i x hx =>
  have e:=kV (l:=kM) (f:=fun i x=>(BI (pD G.w) 627 (Str.ofString x),((pD G.w).lookup (Bn.m i)).map (·.cls))) (g:=fun i _=>(some (.ref (Bn.m i)),some (.type "function"))) (by kernel_rfl) i x hx
  ⟨(kl X (by kernel_rfl)).trans (congrArg (·.1) e),CS X (congrArg (·.2) e)⟩
 machD:=fun i q hq=>⟨_,_,pd X lim (fd:=mz i q) (kV (l:=pW) (f:=fun i _=>BR (pD G.w) (Bn.m i)) (g:=fun i q=>BQ (pD G.w) (Bn.m i) (mz i q)) (by kernel_rfl) i q hq)⟩
 imageC:=⟨⟨_,_,_,_,_,_,_,_,_,_,_,_,_,X 649 _ rfl,fun _=>rfl⟩,zu X (by kernel_rfl)⟩
 imageNo:=oS X (by kernel_rfl) (by kernel_rfl)
 imageFs:=oS X (by kernel_rfl) (by kernel_rfl)
 imageIn:=(kl X (by kernel_rfl)).trans (by kernel_rfl)
 imageF:=CS X (by kernel_rfl)
 imageD:=⟨_,_,pd X lim (fd:=nz) (by kernel_rfl)⟩
theorem CQ:Gl sx xv Bn:=⟨by kernel_rfl,by kernel_rfl,by kernel_rfl,by kernel_rfl,by kernel_rfl,by kernel_rfl,by kernel_rfl,by kernel_rfl,by kernel_rfl,by kernel_rfl,by kernel_rfl,by kernel_rfl,by kernel_rfl,by kernel_rfl,by kernel_rfl,by kernel_rfl,by kernel_rfl,by kernel_rfl⟩
end
section
variable {G:Gd} {mg mb:Str→Option Value}
theorem A7 (X:(pD G.w).In G.g) (lim:G.g.NoLimit):Dec G Bb sx where
 names:=⟨_,yR X (a:=139) rfl (qa (by kernel_rfl)) rfl,⟨_,rfl⟩,rfl⟩
 instr:=⟨_,gO X (a:=35) rfl (dn (by kernel_rfl)) rfl,rfl⟩
 row:=⟨_,_,_,X 84 _ rfl,rfl,_,rfl⟩
 places:=⟨_,gO X (a:=86) rfl (dn (by kernel_rfl)) rfl,rfl⟩
 rowE:=⟨_,X 108 _ rfl,rfl,_,rfl⟩
 bounds:=⟨_,gO X (a:=109) rfl (dn (by kernel_rfl)) rfl,rfl⟩
 gLUI:=by kernel_rfl
 gAUIPC:=by kernel_rfl
 gJAL:=by kernel_rfl
 gWI:=by kernel_rfl
 gWR:=by kernel_rfl
 gF:=by kernel_rfl
 gS:=by kernel_rfl
 gN:=by kernel_rfl
 gI:=by kernel_rfl
 gP:=by kernel_rfl
 gB:=by kernel_rfl
 gNO:=by kernel_rfl
 gD:=by kernel_rfl
 gSW:=by kernel_rfl
 gSG:=by kernel_rfl
 nameOfD:=⟨_,_,pd X lim (fd:=(dF (dD kK) "name_of")) (by kernel_rfl)⟩
 decodeD:=⟨_,_,pd X lim (fd:=(dF (dD k9) "decode")) (by kernel_rfl)⟩
 signedD:=⟨_,_,pd X lim (fd:=(dF (dD kD) "signed_word")) (by kernel_rfl)⟩
theorem AE (X:(pD G.w).In G.g):Ops G sx where
 numbers:=⟨512,_,by kernel_rfl,gO X (a:=512) rfl (dn (by kernel_rfl)) rfl,rfl⟩
 regs:=⟨510,_,by kernel_rfl,gO X (a:=510) rfl (dn (by kernel_rfl)) rfl,rfl⟩
 loads:=⟨514,_,by kernel_rfl,gO X (a:=514) rfl (dn (by kernel_rfl)) rfl,rfl⟩
 stores:=⟨520,_,by kernel_rfl,gO X (a:=520) rfl (dn (by kernel_rfl)) rfl,rfl⟩
 branches:=⟨513,_,by kernel_rfl,gO X (a:=513) rfl (dn (by kernel_rfl)) rfl,rfl⟩
noncomputable def AN:LAd:=⟨fun i=>if i < 19 then 660+7*i else 791,fun t=>[715,722,729,743,750,778,785].getD t 0,fun t=>[711,718,725,739,746,774,781].getD t 0⟩
theorem AM (X:(pD G.w).In G.g) (lim:G.g.NoLimit) (N:G.g.Ns mainGlobals mg) (h2:∀t,t < 7→CodeHd G.g (AN.cd t) (AN.tab t)) (h3:∀t,t < 7→G.g.BuiltinsAt mg (AN.tab t)):Law G AN sx where
 fD:=fun i q hq=>⟨_,_,pd X lim (fd:=iJ i q) (kV (l:=uG) (f:=fun i _=>BR (pD G.w) (AN.fn i)) (g:=fun i q=>BQ (pD G.w) (AN.fn i) (iJ i q)) (by kernel_rfl) i q hq)⟩
 lD:=fun t i q hq =>
  have e:=kV (l:=yJ) (f:=fun t (p:Nat×Str)=>(BR (pD G.w) (AN.fn p.1),xu (pD G.w) (AN.fn p.1))) (g:=fun t (p:Nat×Str)=>(BQ (pD G.w) (AN.fn p.1) (iJ p.1 p.2),AN.cd t)) (by kernel_rfl) t (i,q) hq
  have h:=pd X lim (fd:=iJ i q) (congrArg Prod.fst e)
  ⟨_,CW (fd:=iJ i q) h (congrArg Prod.snd e)⟩
 gN:=kV (l:=uH) (f:=fun _ x=>sx.lookup (Str.ofString x)) (g:=fun i _=>some (.base (AN.fn i))) (by kernel_rfl)
 gAll:=by kernel_rfl
 lim:=lim
 tabP:=by decide
 hd:=h2
 glob:=⟨mg,N,h3⟩
end
section
theorem tW {ns:List Int} (w:WellAll P h vs (ns.map .int)):∀ (π:PM) n,VRs π n (ns.map AV.int) vs:=by
 induction ns generalizing vs with
 | nil=>cases w;exact fun _ _ => .nil
 | cons i ns ih=>cases w with
  | cons w1 w2=>cases w1 with
   | int _ t=>exact fun π n => .cons ⟨t,rfl⟩ (ih w2 π n)
theorem sR:Rm callerA 16:=⟨by decide,by decide,rfl⟩
theorem AS:importsNone r8=true:=by kernel_rfl
noncomputable def Dm:List Str:=["_law_stored", "_law_loaded", "_law_row_read", "_law_called", "_law_jumped", "_law_run_right", "_law_no_room"]
noncomputable def nb:List (Addr×Addr):=[(715,711),(722,718),(729,725),(743,739),(750,746),(778,774),(785,781)]
theorem Aq (P:Params):Dm.map (tabIn (Ai P))=nb.map some:=by kernel_rfl
theorem AD:Dm.all (fun x=>((recsOf r8).find? (fun e=>e.name==x)).isSome)=true:=by kernel_rfl
theorem wS {w:World} {lo:List Str} (T:Top r8 lo mean mg mb h) (X:(Ai w.params).In h):TabsAt nb h:=fun q hq=>by
 (refine b8 (List.mem_iff_getElem?.mp hq) fun i hi=>?_)
 have e:=congrArg (fun l=>l[i]?) (Aq w.params)
 simp only[List.getElem?_map,hi,Option.map_some] at e
 (refine aF (Option.map_eq_some_iff.mp e) fun x hx e2=>?_)
 have hr:=List.all_eq_true.mp AD x (List.mem_of_getElem? hx)
 (refine b8 (Option.isSome_iff_exists.mp hr) fun d hd=>?_)
 exact tab_of T X hd e2
noncomputable def σ03:List AO:=(List.range 7).map fun t => .tab (AN.tab t) []
theorem σ03_at (h:t < 7):σ03[t]? = some (.tab (AN.tab t) []):=by unfold σ03;rw[List.getElem?_map,List.getElem?_range h];rfl
theorem σ03_get (h:σ03[i]? = some o):i < 7∧o = .tab (AN.tab i) []:=by
 have hi:i < 7:=(List.getElem?_eq_some_iff.mp h).1
 rw[σ03_at hi] at h;cases h;exact⟨hi,rfl⟩
theorem wT:∀i < 7,∀j < 7,AN.tab i=AN.tab j→i=j:=by decide
theorem io:∀i < 7,(AN.cd i,AN.tab i)∈nb:=by decide
theorem re (p:Addr) (hp:p∈nb.map (·.2)):∃t,t < 7∧p=AN.tab t:=by
 (refine aF (List.mem_map.mp (show p∈(List.range 7).map AN.tab from hp)) fun t h1 h2=>?_)
 exact⟨t,List.mem_range.mp h1,h2.symm⟩
theorem mK (h:∀vs,o.data ≠ .fields vs):o≠tabObj #[]:=fun q=>h #[] (by rw[q])
theorem zj (w:World) (s₀ s₁:Shared) (mg mb:Str→Option Value) (Gr:Ground r8 gd [] (XL r8 []) w s₀ mg mb s₁.heap) (Y:Hook.says tQ w s₁.heap) (args:List WData) (vs:List Value) (as:List Addr)
  (hpre:(OpenLaw.row PySem.Challenge.rw_nm0033_03).toRowW.claim.pre args=true) (hlay:WData.layableAll args=true) (L:Laid [] w s₀ s₁ args vs as) (low:sysModules < s₀.heap.objs.size):jW PySem.Challenge.rw_nm0033_03 w s₀ s₁ mg args vs:=by
 have X:(Ai w.params).In s₁.heap:=kIn_of Y
 have T:=Gr.T
 have hT:TabsAt nb s₁.heap:=wS T X
 have ha:mg (Str.ofString "law")=some (.ref 791):=mg_of X T.g (by kernel_rfl)
 let G:Gd:=⟨ut,w,ghostOf s₁.heap nb⟩
 have XG:(pD G.w).In G.g:=ghost_K hT X (by kernel_rfl)
 have N:G.g.Ns mainGlobals mg:=ghost_ns hT T.g
 have M:G.g.Ns builtinsNs mb:=ghost_ns hT T.b
 have lim:G.g.NoLimit:=by(refine aF (T.nolimit) fun mc h1 h2=>?_);exact⟨mc,ghost_ns hT h1,h2⟩
 have hs:jR G:=by
  (refine aF ((T.seer AS).mods) fun mm hm _=>?_)
  (refine cM (ghost_ns hT hm) fun o _ _ e _=>?_)
  exact⟨o,e⟩
 have hcd:∀t,t < 7→CodeHd G.g (AN.cd t) (AN.tab t):=fun t ht=>by
  (refine lX ((hT _ (io t ht)).1) fun o vs file tf flags tg inF text tt e1 r1 r=>?_)
  exact⟨o,vs,file,tf,flags,tg,inF,text,tt,ghost_get hT e1 (fun q=>by rw[q] at r1;cases r1),r1,r⟩
 have hbm:∀t,t < 7→G.g.BuiltinsAt mg (AN.tab t):=fun t ht=>by
  (refine mR (T.bmain) fun bm ob h1 h2 h3 h4 h5 h6=>?_)
  have n0:ob≠tabObj #[]:=mK (fun vs q=>by rw[h6] at q;cases q)
  have n1:bm≠AN.tab t:=fun q=>by
   have:=(hT _ (io t ht)).2
   rw[← q,h3] at this
   exact n0 (Option.some.inj this)
  have n2:bm≠mainGlobals:=by
   (refine cQ (T.g) fun o es ep g1 g2 _=>?_)
   rintro rfl
   rw[h3] at g1;cases g1;rw[h6] at g2;cases g2
  exact⟨bm,ob,h1,h2,n2,n1,ghost_get hT h3 n0,h4,h5,h6⟩
 (refine bD (pre_splitW hpre) fun hsh hcond=>?_)
 (refine cy (hasAllW_cons hsh) fun dd r zz27 h1 h2=>?_;subst zz27)
 obtain rfl:r=[]:=by
  cases r with
  | nil=>rfl
  | cons x r=>cases h2
 (refine aF (hasW_list h1) fun xs zz31 h3=>?_;subst zz31)
 (refine b8 (items_int h3) fun ns zz33=>?_;subst zz33)
 have hlen:ns.length≤1000:=by
  have e:WTm.holds [] (.and (.not (.lt (.lit (.int 63)) (.len (.arg 0)))) (.lit (.bool true))) { args:=[WData.list (ns.map WData.int)] }=true:=hcond
  simp[WTm.holds,WTm.value,less?,Num.less?] at e
  by_cases c:(63:Int) < (ns.length:Int)
  ·simp[c] at e
  ·lia
 have hwl:=L.well
 cases hwl with
 | cons w1 w2 =>
  cases w2
  cases w1 with
  | list hsc w3 =>
   rename_i sc vs0
   have hpl:G.g.PlainList sc vs0.toArray:=⟨_,ghost_get hT hsc (mK (fun vs q=>by cases q))⟩
   have W:=B9 XG lim N M T.builtins hs
   have ct:=xi (σ:=σ03) W CQ (A7 XG lim) (AE XG) (AM XG lim N hcd hbm) hpl (tW w3) (fun t ht=>⟨[],σ03_at ht,.inl rfl⟩) hlen
   unfold jW
   refine⟨_,ha,?_⟩
   rcases ct with⟨r,σ',x,rfl,hts⟩ | ⟨_,_,_,_,k'⟩
   ·let π:PM:=⟨fun i=>AN.tab i,fun _=>0⟩
    have S:StC G.g callerA σ03 π s₁:=by
     refine⟨fun b o e=>of_hideAll _ e,⟨fun i o h=>?_,fun i j o o' b h1 h2 h3 h4=>?_,fun i o b h1 h2=>?_⟩,[],rfl,fun f hf=>by cases hf⟩
     ·(refine bD (σ03_get h) fun hi zz34=>?_;subst zz34)
      exact⟨rfl,(hT _ (io i hi)).2,fun t ht=>by cases ht⟩
     ·(refine bD (σ03_get h1) fun hi zz35=>?_;subst zz35)
      (refine bD (σ03_get h2) fun hj zz36=>?_;subst zz36)
      simp only[own,List.mem_singleton] at h3 h4
      exact wT i hi j hj (h3.symm.trans h4)
     ·(refine bD (σ03_get h1) fun hi zz37=>?_;subst zz37)
      simp only[own,List.mem_singleton] at h2
      rw[h2]
      exact hideAll_none _ (List.mem_map_of_mem (io i hi))
    refine x callerA sR π s₁ _ _ S rfl (.cons rfl .nil) _ _ fun π' s' v S' W' hv=>?_
    cases hv
    have tb:∀t,t < 7→∃ps,s'.heap.get? (AN.tab t)=some (tabObj ps):=fun t ht=>by
     (refine aF (hts t ht) fun ts e1 _=>?_)
     exact⟨_,(S'.rep.at_ t _ e1).2.1⟩
    have kp:∀b o,s₁.heap.get? b=some o→b ∉ nb.map (·.2)→s'.heap.get? b=some o:=fun b o e q=>(W'.kept b o (fun⟨i,ao,i1,i2⟩=>by
      (refine bD (σ03_get i1) fun hi zz39=>?_;subst zz39)
      simp only[own,List.mem_singleton] at i2
      exact q (i2 ▸ List.mem_map_of_mem (io i hi))) id e).1 (by intro hf;cases hf)
    refine⟨.inl ⟨.bool true,.bool true,[],rfl,fun _=>rfl,.bool _,?_,fun _=>⟨List.nodup_nil,fun a ha=>by cases ha⟩⟩,⟨fun b o e=>?_,fun b o e=>?_⟩,W'.os,.of_eq (W'.gens.trans L.gens)⟩
    ·kernel_rfl
    ·by_cases q:b∈nb.map (·.2)
     ·(refine aF (re b q) fun t ht zz40=>?_;subst zz40)
      (refine bD (hT _ (io t ht)) fun h1 h2=>?_)
      rw[h2] at e;cases e
      (refine b8 (tb t ht) fun ps hp=>?_)
      exact .inr (.inl ⟨(h1.tab h2).isCodeTable,rfl,#[],ps,rfl,by rw[hp];simp⟩)
     ·exact .inl (kp b o e q)
    ·by_cases q:b∈nb.map (·.2)
     ·(refine aF (re b q) fun t ht zz42=>?_;subst zz42)
      (refine b8 (tb t ht) fun ps hp=>?_)
      exact⟨_,hp⟩
     ·exact⟨o,kp b o e q⟩
   ·exact k'.elim
end
section
theorem zk {P:World→Prop} (a b:String) (h1:∀w:World,P ((w.withFollow a false).withFollow b false)) (h2:∀w:World,P ((w.withFollow a false).withFollow b true)) (h3:∀w:World,P ((w.withFollow a true).withFollow b false)) (h4:∀w:World,P ((w.withFollow a true).withFollow b true)) (w:World):P w:=by
 refine byRow2 b (P:=P) (fun w=>?_) (fun w=>?_) w
 ·exact byRow2 a (P:=fun w=>P (w.withFollow b false)) h1 h3 w
 ·exact byRow2 a (P:=fun w=>P (w.withFollow b true)) h2 h4 w
theorem zc:LeftO PySem.Challenge.rw_nm0033_03.prog r8 gd BU (Hook.obs tQ) (Hook.val tQ) 20896 :=
 qC (p:=ut) (ann:=some (.ref 6)) Ct rfl CT Cb (zk (P:=tP) _ _ wP wO wN wM)
theorem row03 (said:(OpenLaw.row PySem.Challenge.rw_nm0033_03).wellSaid=true):(OpenLaw.row PySem.Challenge.rw_nm0033_03).Holds:=by
 refine xm (q:=r8) (loose:=gd) (Xt:=BU) (XP:=XL r8 []) (Yf:=Hook.obs tQ) (Ya:=Hook.val tQ) (YP:=Hook.says tQ) (N:=20896) zc (Hook.of tQ) (Hook.keeps tQ) (fun s e=>xl_of s (Bool.and_eq_true_iff.mp e).1) XL.keeps (by rfl) (by rfl) (by rfl) said (by decide +kernel) ⟨rfl,rfl,rfl,rfl,rfl,by decide +kernel⟩ ?hw ?hc
 case hw=>w_witness2
 case hc=>exact zj
end
end Mine
theorem PySem.Challenge.cw_nm0033_03_holds : PySem.Challenge.rw_nm0033_03.Holds :=
 holds_law Mine.said03 Mine.row03
