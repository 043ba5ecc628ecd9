import PyProof.Rows.All
import Wide.All
import OpenK.AllK
import Wide.FinOn
import PySem.Challenge.RW_nt0291_01
set_option Elab.async false
set_option maxRecDepth 100000
set_option linter.all false
set_option tactic.hygienic false
set_option genSizeOf false
set_option bootstrap.genMatcherCode false
set_option compiler.extract_closed false
namespace Mine
section
theorem bc {p:Prop} (h:¬ p→False):p:=Classical.byContradiction h
theorem x02 {F0 F1 F2:Prop} {G:Prop} (h:F0∧F1∧F2) (k:F0→F1→F2→G):G:=k h.1 h.2.1 h.2.2
theorem x03 {F0 F1 F2 F3:Prop} {G:Prop} (h:F0∧F1∧F2∧F3) (k:F0→F1→F2→F3→G):G:=k h.1 h.2.1 h.2.2.1 h.2.2.2
theorem x04 {F0 F1 F2 F3 F4:Prop} {G:Prop} (h:F0∧F1∧F2∧F3∧F4) (k:F0→F1→F2→F3→F4→G):G:=k h.1 h.2.1 h.2.2.1 h.2.2.2.1 h.2.2.2.2
theorem x06 {F0 F1 F2 F3 F4 F5 F6:Prop} {G:Prop} (h:F0∧F1∧F2∧F3∧F4∧F5∧F6) (k:F0→F1→F2→F3→F4→F5→F6→G):G:=k h.1 h.2.1 h.2.2.1 h.2.2.2.1 h.2.2.2.2.1 h.2.2.2.2.2.1 h.2.2.2.2.2.2
theorem x07 {F0 F1 F2 F3 F4 F5 F6 F7:Prop} {G:Prop} (h:F0∧F1∧F2∧F3∧F4∧F5∧F6∧F7) (k:F0→F1→F2→F3→F4→F5→F6→F7→G):G:=k h.1 h.2.1 h.2.2.1 h.2.2.2.1 h.2.2.2.2.1 h.2.2.2.2.2.1 h.2.2.2.2.2.2.1 h.2.2.2.2.2.2.2
theorem x11 {Ta:Sort _} {F0 F1:Ta→Prop} {G:Prop} (h:∃ a,F0 a∧F1 a) (k:∀ a,F0 a→F1 a→G):G:=h.elim fun a h=>k a h.1 h.2
theorem x12 {Ta:Sort _} {F0 F1 F2:Ta→Prop} {G:Prop} (h:∃ a,F0 a∧F1 a∧F2 a) (k:∀ a,F0 a→F1 a→F2 a→G):G:=h.elim fun a h=>k a h.1 h.2.1 h.2.2
theorem x13 {Ta:Sort _} {F0 F1 F2 F3:Ta→Prop} {G:Prop} (h:∃ a,F0 a∧F1 a∧F2 a∧F3 a) (k:∀ a,F0 a→F1 a→F2 a→F3 a→G):G:=h.elim fun a h=>k a h.1 h.2.1 h.2.2.1 h.2.2.2
theorem x14 {Ta:Sort _} {F0 F1 F2 F3 F4:Ta→Prop} {G:Prop} (h:∃ a,F0 a∧F1 a∧F2 a∧F3 a∧F4 a) (k:∀ a,F0 a→F1 a→F2 a→F3 a→F4 a→G):G:=h.elim fun a h=>k a h.1 h.2.1 h.2.2.1 h.2.2.2.1 h.2.2.2.2
theorem x20 {Ta:Sort _} {Tb:Sort _} {F0:Ta→Tb→Prop} {G:Prop} (h:∃ a b,F0 a b) (k:∀ a b,F0 a b→G):G:=h.elim fun a h=>h.elim fun b h=>k a b h
theorem x21 {Ta:Sort _} {Tb:Sort _} {F0 F1:Ta→Tb→Prop} {G:Prop} (h:∃ a b,F0 a b∧F1 a b) (k:∀ a b,F0 a b→F1 a b→G):G:=h.elim fun a h=>h.elim fun b h=>k a b h.1 h.2
theorem x22 {Ta:Sort _} {Tb:Sort _} {F0 F1 F2:Ta→Tb→Prop} {G:Prop} (h:∃ a b,F0 a b∧F1 a b∧F2 a b) (k:∀ a b,F0 a b→F1 a b→F2 a b→G):G:=h.elim fun a h=>h.elim fun b h=>k a b h.1 h.2.1 h.2.2
theorem x23 {Ta:Sort _} {Tb:Sort _} {F0 F1 F2 F3:Ta→Tb→Prop} {G:Prop} (h:∃ a b,F0 a b∧F1 a b∧F2 a b∧F3 a b) (k:∀ a b,F0 a b→F1 a b→F2 a b→F3 a b→G):G:=h.elim fun a h=>h.elim fun b h=>k a b h.1 h.2.1 h.2.2.1 h.2.2.2
theorem x25 {Ta:Sort _} {Tb:Sort _} {F0 F1 F2 F3 F4 F5:Ta→Tb→Prop} {G:Prop} (h:∃ a b,F0 a b∧F1 a b∧F2 a b∧F3 a b∧F4 a b∧F5 a b) (k:∀ a b,F0 a b→F1 a b→F2 a b→F3 a b→F4 a b→F5 a b→G):G:=h.elim fun a h=>h.elim fun b h=>k a b h.1 h.2.1 h.2.2.1 h.2.2.2.1 h.2.2.2.2.1 h.2.2.2.2.2
theorem x27 {Ta:Sort _} {Tb:Sort _} {F0 F1 F2 F3 F4 F5 F6 F7:Ta→Tb→Prop} {G:Prop} (h:∃ a b,F0 a b∧F1 a b∧F2 a b∧F3 a b∧F4 a b∧F5 a b∧F6 a b∧F7 a b) (k:∀ a b,F0 a b→F1 a b→F2 a b→F3 a b→F4 a b→F5 a b→F6 a b→F7 a b→G):G:=h.elim fun a h=>h.elim fun b h=>k a b h.1 h.2.1 h.2.2.1 h.2.2.2.1 h.2.2.2.2.1 h.2.2.2.2.2.1 h.2.2.2.2.2.2.1 h.2.2.2.2.2.2.2
theorem x30 {Ta:Sort _} {Tb:Sort _} {Tc:Sort _} {F0:Ta→Tb→Tc→Prop} {G:Prop} (h:∃ a b c,F0 a b c) (k:∀ a b c,F0 a b c→G):G:=h.elim fun a h=>h.elim fun b h=>h.elim fun c h=>k a b c h
theorem x31 {Ta:Sort _} {Tb:Sort _} {Tc:Sort _} {F0 F1:Ta→Tb→Tc→Prop} {G:Prop} (h:∃ a b c,F0 a b c∧F1 a b c) (k:∀ a b c,F0 a b c→F1 a b c→G):G:=h.elim fun a h=>h.elim fun b h=>h.elim fun c h=>k a b c h.1 h.2
theorem x32 {Ta:Sort _} {Tb:Sort _} {Tc:Sort _} {F0 F1 F2:Ta→Tb→Tc→Prop} {G:Prop} (h:∃ a b c,F0 a b c∧F1 a b c∧F2 a b c) (k:∀ a b c,F0 a b c→F1 a b c→F2 a b c→G):G:=h.elim fun a h=>h.elim fun b h=>h.elim fun c h=>k a b c h.1 h.2.1 h.2.2
theorem x33 {Ta:Sort _} {Tb:Sort _} {Tc:Sort _} {F0 F1 F2 F3:Ta→Tb→Tc→Prop} {G:Prop} (h:∃ a b c,F0 a b c∧F1 a b c∧F2 a b c∧F3 a b c) (k:∀ a b c,F0 a b c→F1 a b c→F2 a b c→F3 a b c→G):G:=h.elim fun a h=>h.elim fun b h=>h.elim fun c h=>k a b c h.1 h.2.1 h.2.2.1 h.2.2.2
theorem x34 {Ta:Sort _} {Tb:Sort _} {Tc:Sort _} {F0 F1 F2 F3 F4:Ta→Tb→Tc→Prop} {G:Prop} (h:∃ a b c,F0 a b c∧F1 a b c∧F2 a b c∧F3 a b c∧F4 a b c) (k:∀ a b c,F0 a b c→F1 a b c→F2 a b c→F3 a b c→F4 a b c→G):G:=h.elim fun a h=>h.elim fun b h=>h.elim fun c h=>k a b c h.1 h.2.1 h.2.2.1 h.2.2.2.1 h.2.2.2.2
theorem x35 {Ta:Sort _} {Tb:Sort _} {Tc:Sort _} {F0 F1 F2 F3 F4 F5:Ta→Tb→Tc→Prop} {G:Prop} (h:∃ a b c,F0 a b c∧F1 a b c∧F2 a b c∧F3 a b c∧F4 a b c∧F5 a b c) (k:∀ a b c,F0 a b c→F1 a b c→F2 a b c→F3 a b c→F4 a b c→F5 a b c→G):G:=h.elim fun a h=>h.elim fun b h=>h.elim fun c h=>k a b c h.1 h.2.1 h.2.2.1 h.2.2.2.1 h.2.2.2.2.1 h.2.2.2.2.2
theorem x36 {Ta:Sort _} {Tb:Sort _} {Tc:Sort _} {F0 F1 F2 F3 F4 F5 F6:Ta→Tb→Tc→Prop} {G:Prop} (h:∃ a b c,F0 a b c∧F1 a b c∧F2 a b c∧F3 a b c∧F4 a b c∧F5 a b c∧F6 a b c) (k:∀ a b c,F0 a b c→F1 a b c→F2 a b c→F3 a b c→F4 a b c→F5 a b c→F6 a b c→G):G:=h.elim fun a h=>h.elim fun b h=>h.elim fun c h=>k a b c h.1 h.2.1 h.2.2.1 h.2.2.2.1 h.2.2.2.2.1 h.2.2.2.2.2.1 h.2.2.2.2.2.2
theorem x37 {Ta:Sort _} {Tb:Sort _} {Tc:Sort _} {F0 F1 F2 F3 F4 F5 F6 F7:Ta→Tb→Tc→Prop} {G:Prop} (h:∃ a b c,F0 a b c∧F1 a b c∧F2 a b c∧F3 a b c∧F4 a b c∧F5 a b c∧F6 a b c∧F7 a b c) (k:∀ a b c,F0 a b c→F1 a b c→F2 a b c→F3 a b c→F4 a b c→F5 a b c→F6 a b c→F7 a b c→G):G:=h.elim fun a h=>h.elim fun b h=>h.elim fun c h=>k a b c h.1 h.2.1 h.2.2.1 h.2.2.2.1 h.2.2.2.2.1 h.2.2.2.2.2.1 h.2.2.2.2.2.2.1 h.2.2.2.2.2.2.2
theorem x41 {Ta:Sort _} {Tb:Sort _} {Tc:Sort _} {Td:Sort _} {F0 F1:Ta→Tb→Tc→Td→Prop} {G:Prop} (h:∃ a b c d,F0 a b c d∧F1 a b c d) (k:∀ a b c d,F0 a b c d→F1 a b c d→G):G:=h.elim fun a h=>h.elim fun b h=>h.elim fun c h=>h.elim fun d h=>k a b c d h.1 h.2
theorem x43 {Ta:Sort _} {Tb:Sort _} {Tc:Sort _} {Td:Sort _} {F0 F1 F2 F3:Ta→Tb→Tc→Td→Prop} {G:Prop} (h:∃ a b c d,F0 a b c d∧F1 a b c d∧F2 a b c d∧F3 a b c d) (k:∀ a b c d,F0 a b c d→F1 a b c d→F2 a b c d→F3 a b c d→G):G:=h.elim fun a h=>h.elim fun b h=>h.elim fun c h=>h.elim fun d h=>k a b c d h.1 h.2.1 h.2.2.1 h.2.2.2
theorem x44 {Ta:Sort _} {Tb:Sort _} {Tc:Sort _} {Td:Sort _} {F0 F1 F2 F3 F4:Ta→Tb→Tc→Td→Prop} {G:Prop} (h:∃ a b c d,F0 a b c d∧F1 a b c d∧F2 a b c d∧F3 a b c d∧F4 a b c d) (k:∀ a b c d,F0 a b c d→F1 a b c d→F2 a b c d→F3 a b c d→F4 a b c d→G):G:=h.elim fun a h=>h.elim fun b h=>h.elim fun c h=>h.elim fun d h=>k a b c d h.1 h.2.1 h.2.2.1 h.2.2.2.1 h.2.2.2.2
theorem x45 {Ta:Sort _} {Tb:Sort _} {Tc:Sort _} {Td:Sort _} {F0 F1 F2 F3 F4 F5:Ta→Tb→Tc→Td→Prop} {G:Prop} (h:∃ a b c d,F0 a b c d∧F1 a b c d∧F2 a b c d∧F3 a b c d∧F4 a b c d∧F5 a b c d) (k:∀ a b c d,F0 a b c d→F1 a b c d→F2 a b c d→F3 a b c d→F4 a b c d→F5 a b c d→G):G:=h.elim fun a h=>h.elim fun b h=>h.elim fun c h=>h.elim fun d h=>k a b c d h.1 h.2.1 h.2.2.1 h.2.2.2.1 h.2.2.2.2.1 h.2.2.2.2.2
theorem x51 {Ta:Sort _} {Tb:Sort _} {Tc:Sort _} {Td:Sort _} {Te:Sort _} {F0 F1:Ta→Tb→Tc→Td→Te→Prop} {G:Prop} (h:∃ a b c d e,F0 a b c d e∧F1 a b c d e) (k:∀ a b c d e,F0 a b c d e→F1 a b c d e→G):G:=h.elim fun a h=>h.elim fun b h=>h.elim fun c h=>h.elim fun d h=>h.elim fun e h=>k a b c d e h.1 h.2
theorem x52 {Ta:Sort _} {Tb:Sort _} {Tc:Sort _} {Td:Sort _} {Te:Sort _} {F0 F1 F2:Ta→Tb→Tc→Td→Te→Prop} {G:Prop} (h:∃ a b c d e,F0 a b c d e∧F1 a b c d e∧F2 a b c d e) (k:∀ a b c d e,F0 a b c d e→F1 a b c d e→F2 a b c d e→G):G:=h.elim fun a h=>h.elim fun b h=>h.elim fun c h=>h.elim fun d h=>h.elim fun e h=>k a b c d e h.1 h.2.1 h.2.2
theorem x71 {Ta:Sort _} {Tb:Sort _} {Tc:Sort _} {Td:Sort _} {Te:Sort _} {Tf:Sort _} {Tg:Sort _} {F0 F1:Ta→Tb→Tc→Td→Te→Tf→Tg→Prop} {G:Prop} (h:∃ a b c d e f g,F0 a b c d e f g∧F1 a b c d e f g) (k:∀ a b c d e f g,F0 a b c d e f g→F1 a b c d e f g→G):G:=h.elim fun a h=>h.elim fun b h=>h.elim fun c h=>h.elim fun d h=>h.elim fun e h=>h.elim fun f h=>h.elim fun g h=>k a b c d e f g h.1 h.2
theorem x74 {Ta:Sort _} {Tb:Sort _} {Tc:Sort _} {Td:Sort _} {Te:Sort _} {Tf:Sort _} {Tg:Sort _} {F0 F1 F2 F3 F4:Ta→Tb→Tc→Td→Te→Tf→Tg→Prop} {G:Prop} (h:∃ a b c d e f g,F0 a b c d e f g∧F1 a b c d e f g∧F2 a b c d e f g∧F3 a b c d e f g∧F4 a b c d e f g) (k:∀ a b c d e f g,F0 a b c d e f g→F1 a b c d e f g→F2 a b c d e f g→F3 a b c d e f g→F4 a b c d e f g→G):G:=h.elim fun a h=>h.elim fun b h=>h.elim fun c h=>h.elim fun d h=>h.elim fun e h=>h.elim fun f h=>h.elim fun g h=>k a b c d e f g h.1 h.2.1 h.2.2.1 h.2.2.2.1 h.2.2.2.2
theorem x78 {Ta:Sort _} {Tb:Sort _} {Tc:Sort _} {Td:Sort _} {Te:Sort _} {Tf:Sort _} {Tg:Sort _} {F0 F1 F2 F3 F4 F5 F6 F7 F8:Ta→Tb→Tc→Td→Te→Tf→Tg→Prop} {G:Prop} (h:∃ a b c d e f g,F0 a b c d e f g∧F1 a b c d e f g∧F2 a b c d e f g∧F3 a b c d e f g∧F4 a b c d e f g∧F5 a b c d e f g∧F6 a b c d e f g∧F7 a b c d e f g∧F8 a b c d e f g) (k:∀ a b c d e f g,F0 a b c d e f g→F1 a b c d e f g→F2 a b c d e f g→F3 a b c d e f g→F4 a b c d e f g→F5 a b c d e f g→F6 a b c d e f g→F7 a b c d e f g→F8 a b c d e f g→G):G:=h.elim fun a h=>h.elim fun b h=>h.elim fun c h=>h.elim fun d h=>h.elim fun e h=>h.elim fun f h=>h.elim fun g h=>k a b c d e f g h.1 h.2.1 h.2.2.1 h.2.2.2.1 h.2.2.2.2.1 h.2.2.2.2.2.1 h.2.2.2.2.2.2.1 h.2.2.2.2.2.2.2.1 h.2.2.2.2.2.2.2.2
theorem b2 {a0 a1:Bool} {G:Prop} (h:(a0&&a1)=true) (k:a0=true→a1=true→G):G:=k (Bool.and_eq_true_iff.1 h).1 (Bool.and_eq_true_iff.1 h).2
theorem b3 {a0 a1 a2:Bool} {G:Prop} (h:(a0&&a1&&a2)=true) (k:a0=true→a1=true→a2=true→G):G:=b2 h fun h z=>b2 h fun h0 h1=>k h0 h1 z
theorem b4 {a0 a1 a2 a3:Bool} {G:Prop} (h:(a0&&a1&&a2&&a3)=true) (k:a0=true→a1=true→a2=true→a3=true→G):G:=b2 h fun h z=>b3 h fun h0 h1 h2=>k h0 h1 h2 z
theorem b5 {a0 a1 a2 a3 a4:Bool} {G:Prop} (h:(a0&&a1&&a2&&a3&&a4)=true) (k:a0=true→a1=true→a2=true→a3=true→a4=true→G):G:=b2 h fun h z=>b4 h fun h0 h1 h2 h3=>k h0 h1 h2 h3 z
theorem b6 {a0 a1 a2 a3 a4 a5:Bool} {G:Prop} (h:(a0&&a1&&a2&&a3&&a4&&a5)=true) (k:a0=true→a1=true→a2=true→a3=true→a4=true→a5=true→G):G:=b2 h fun h z=>b5 h fun h0 h1 h2 h3 h4=>k h0 h1 h2 h3 h4 z
theorem b7 {a0 a1 a2 a3 a4 a5 a6:Bool} {G:Prop} (h:(a0&&a1&&a2&&a3&&a4&&a5&&a6)=true) (k:a0=true→a1=true→a2=true→a3=true→a4=true→a5=true→a6=true→G):G:=b2 h fun h z=>b6 h fun h0 h1 h2 h3 h4 h5=>k h0 h1 h2 h3 h4 h5 z
theorem b8 {a0 a1 a2 a3 a4 a5 a6 a7:Bool} {G:Prop} (h:(a0&&a1&&a2&&a3&&a4&&a5&&a6&&a7)=true) (k:a0=true→a1=true→a2=true→a3=true→a4=true→a5=true→a6=true→a7=true→G):G:=b2 h fun h z=>b7 h fun h0 h1 h2 h3 h4 h5 h6=>k h0 h1 h2 h3 h4 h5 h6 z
theorem b9 {a0 a1 a2 a3 a4 a5 a6 a7 a8:Bool} {G:Prop} (h:(a0&&a1&&a2&&a3&&a4&&a5&&a6&&a7&&a8)=true) (k:a0=true→a1=true→a2=true→a3=true→a4=true→a5=true→a6=true→a7=true→a8=true→G):G:=b2 h fun h z=>b8 h fun h0 h1 h2 h3 h4 h5 h6 h7=>k h0 h1 h2 h3 h4 h5 h6 h7 z
theorem b10 {a0 a1 a2 a3 a4 a5 a6 a7 a8 a9:Bool} {G:Prop} (h:(a0&&a1&&a2&&a3&&a4&&a5&&a6&&a7&&a8&&a9)=true) (k:a0=true→a1=true→a2=true→a3=true→a4=true→a5=true→a6=true→a7=true→a8=true→a9=true→G):G:=b2 h fun h z=>b9 h fun h0 h1 h2 h3 h4 h5 h6 h7 h8=>k h0 h1 h2 h3 h4 h5 h6 h7 h8 z
theorem b11 {a0 a1 a2 a3 a4 a5 a6 a7 a8 a9 a10:Bool} {G:Prop} (h:(a0&&a1&&a2&&a3&&a4&&a5&&a6&&a7&&a8&&a9&&a10)=true) (k:a0=true→a1=true→a2=true→a3=true→a4=true→a5=true→a6=true→a7=true→a8=true→a9=true→a10=true→G):G:=b2 h fun h z=>b10 h fun h0 h1 h2 h3 h4 h5 h6 h7 h8 h9=>k h0 h1 h2 h3 h4 h5 h6 h7 h8 h9 z
theorem b12 {a0 a1 a2 a3 a4 a5 a6 a7 a8 a9 a10 a11:Bool} {G:Prop} (h:(a0&&a1&&a2&&a3&&a4&&a5&&a6&&a7&&a8&&a9&&a10&&a11)=true) (k:a0=true→a1=true→a2=true→a3=true→a4=true→a5=true→a6=true→a7=true→a8=true→a9=true→a10=true→a11=true→G):G:=b2 h fun h z=>b11 h fun h0 h1 h2 h3 h4 h5 h6 h7 h8 h9 h10=>k h0 h1 h2 h3 h4 h5 h6 h7 h8 h9 h10 z
theorem b13 {a0 a1 a2 a3 a4 a5 a6 a7 a8 a9 a10 a11 a12:Bool} {G:Prop} (h:(a0&&a1&&a2&&a3&&a4&&a5&&a6&&a7&&a8&&a9&&a10&&a11&&a12)=true) (k:a0=true→a1=true→a2=true→a3=true→a4=true→a5=true→a6=true→a7=true→a8=true→a9=true→a10=true→a11=true→a12=true→G):G:=b2 h fun h z=>b12 h fun h0 h1 h2 h3 h4 h5 h6 h7 h8 h9 h10 h11=>k h0 h1 h2 h3 h4 h5 h6 h7 h8 h9 h10 h11 z
theorem b14 {a0 a1 a2 a3 a4 a5 a6 a7 a8 a9 a10 a11 a12 a13:Bool} {G:Prop} (h:(a0&&a1&&a2&&a3&&a4&&a5&&a6&&a7&&a8&&a9&&a10&&a11&&a12&&a13)=true) (k:a0=true→a1=true→a2=true→a3=true→a4=true→a5=true→a6=true→a7=true→a8=true→a9=true→a10=true→a11=true→a12=true→a13=true→G):G:=b2 h fun h z=>b13 h fun h0 h1 h2 h3 h4 h5 h6 h7 h8 h9 h10 h11 h12=>k h0 h1 h2 h3 h4 h5 h6 h7 h8 h9 h10 h11 h12 z
theorem b15 {a0 a1 a2 a3 a4 a5 a6 a7 a8 a9 a10 a11 a12 a13 a14:Bool} {G:Prop} (h:(a0&&a1&&a2&&a3&&a4&&a5&&a6&&a7&&a8&&a9&&a10&&a11&&a12&&a13&&a14)=true) (k:a0=true→a1=true→a2=true→a3=true→a4=true→a5=true→a6=true→a7=true→a8=true→a9=true→a10=true→a11=true→a12=true→a13=true→a14=true→G):G:=b2 h fun h z=>b14 h fun h0 h1 h2 h3 h4 h5 h6 h7 h8 h9 h10 h11 h12 h13=>k h0 h1 h2 h3 h4 h5 h6 h7 h8 h9 h10 h11 h12 h13 z
theorem b16 {a0 a1 a2 a3 a4 a5 a6 a7 a8 a9 a10 a11 a12 a13 a14 a15:Bool} {G:Prop} (h:(a0&&a1&&a2&&a3&&a4&&a5&&a6&&a7&&a8&&a9&&a10&&a11&&a12&&a13&&a14&&a15)=true) (k:a0=true→a1=true→a2=true→a3=true→a4=true→a5=true→a6=true→a7=true→a8=true→a9=true→a10=true→a11=true→a12=true→a13=true→a14=true→a15=true→G):G:=b2 h fun h z=>b15 h fun h0 h1 h2 h3 h4 h5 h6 h7 h8 h9 h10 h11 h12 h13 h14=>k h0 h1 h2 h3 h4 h5 h6 h7 h8 h9 h10 h11 h12 h13 h14 z
theorem ob {α β:Type} {o:Option α} {f:α→Option β} {y:β} {G:Prop} (h:o.bind f=some y) (k:∀ x,o=some x→f x=some y→G):G:=by
 cases o with
 | none=>injection h
 | some x=>exact k x rfl h
theorem oi {c:Bool} {α:Type} {x y:α} {G:Prop} (h:(if c=true then some x else none)=some y) (k:c=true→x=y→G):G:=by
 cases c with
 | false=>injection h
 | true=>exact k rfl (Option.some.inj h)
theorem op {c:Prop} [Decidable c] {α:Type} {x y:α} {G:Prop} (h:(if c then some x else none)=some y) (k:c→x=y→G):G:=by
 by_cases z:c
 ·rw[if_pos z] at h;exact k z (Option.some.inj h)
 ·rw[if_neg z] at h;injection h
@[elab_as_elim] theorem er {α:Sort _} {a b:α} {P:α→Prop} (h:a=b) (g:P b):P a:=h▸g
theorem ft {G:Prop} (h:false=true):G:=nomatch h
end
section
open PySem PySem.Calls PyProof.Rows PySem.W
inductive V where
 | none
 | bool (b:Bool)
 | int (i:Int)
 | str (s:List Nat)
 | bytes (b:List UInt8)
 | ref (a:Addr)
 | tup (xs:List V)
 | lam
inductive yO where
 | list (xs:List V)
 | dict (kvs:List (V×V))
 | inst (C d:Addr)
 | tab (p:Pos) (q:PySem.Str)
noncomputable abbrev Sto:=List (Addr×yO)
noncomputable def Sto.get (σ:Sto) (a:Addr):Option yO:=match σ with
 | []=>Option.none
 | (b,c)::r=>if b=a then some c else Sto.get r a
noncomputable def Sto.upd (σ:Sto) (a:Addr) (c:yO):Sto:=(a,c)::σ
@[simp] theorem Sto.get_upd (σ:Sto) (a b:Addr) (c:yO):(σ.upd a c).get b=if a=b then some c else σ.get b:=rfl
theorem Sto.get_upd_ne (σ:Sto) {a b:Addr} (c:yO) (h:a≠b):(σ.upd a c).get b=σ.get b:=by simp[h]
noncomputable abbrev ke (s:List Nat):PySem.Str:=⟨s.toArray⟩
noncomputable abbrev k3n (ps:Array Value):Obj:={ cls:=.none,data:=.fields ps }
noncomputable abbrev Je (vs:List Value) (n:Nat):Obj:={ cls:=.type "tuple",data:=.seq vs.toArray n }
noncomputable abbrev KH (vs:List Value) (n:Nat):Obj:={ cls:=.type "list",data:=.seq vs.toArray n }
noncomputable abbrev zu (p:Nat→Pos) (k:Nat→Nat):Expr:=.Compare (.BinOp (.Subscript (.Attribute (.Name "entry" (p 0)) "new" (p 1)) (.Constant (.int 3) (k 0) (p 2)) (p 3)) .Mod (.Constant (.int 2) (k 1) (p 4)) (p 5)) [.Eq] [.Constant (.int 0) (k 2) (p 6)] (p 7)
noncomputable abbrev ZG (p:Pos):Arguments:=⟨[],[⟨("entry" : PySem.Str),none,p⟩],none,[],[],none,[]⟩
noncomputable def K1p (fd:FuncData):Prop :=
 fd.closure=[]∧fd.globals=mainGlobals∧fd.builtins=builtinsNs∧fd.scope.kind=.function∧fd.scope.isCoroutine=false∧fd.scope.isGenerator=false ∧
 fd.scope.names=[(("entry" : PySem.Str),NameKind.local)]∧(∀ v,bindArgs fd ⟨[v],[]⟩=pure [(("entry" : PySem.Str),v)]) ∧
 ∃ (p:Nat→Pos) (k:Nat→Nat),fd.body=.expr (zu p k)
noncomputable def k0v (h:Heap) (v:Value):Prop :=
 ∃ a o fd c oc vs t,v=.ref a∧h.get? a=some o∧o.cls=.type "function" ∧ o.data=.func fd∧fd.code=.ref c∧h.get? c=some oc∧oc.cls=.type "code" ∧ oc.data=.fields vs∧vs[1]?=some (.str fd.qualname t)∧K1p fd
mutual
noncomputable def VR (h:Heap):V→Value→Prop
 | .none,v=>v=.none
 | .bool b,v=>v=.bool b
 | .int i,v=>∃ t,v=.int i t
 | .str s,v=>∃ t,v=.str (ke s) t
 | .bytes b,v=>∃ t,v=.bytes b.toArray t
 | .ref a,v=>v=.ref a
 | .tup xs,v=>∃ a n vs,v=.ref a∧h.get? a=some (Je vs n)∧VRs h xs vs
 | .lam,v=>k0v h v
noncomputable def VRs (h:Heap):List V→List Value→Prop
 | [],vs=>vs=[]
 | x::xs,vs=>∃ v r,vs=v::r∧VR h x v∧VRs h xs r
end
noncomputable def JS (o:Obj):Prop:=(∃ vs n,o=Je vs n)∨(o.cls=.type "function" ∧ ∃ fd,o.data=.func fd)∨(o.cls=.type "code" ∧ ∃ vs,o.data=.fields vs)
theorem JS.tup {vs:List Value} {n:Nat}:JS (Je vs n):=.inl ⟨vs,n,rfl⟩
noncomputable def KW (h h':Heap):Prop:=∀ a o,JS o→h.get? a=some o→h'.get? a=some o
theorem k0v.keep {h h':Heap} (k:KW h h') {v:Value} (x:k0v h v):k0v h' v:=by
 refine x78 x ?_;clear x;intro a o fd c oc vs t e1 e2 e3 e4 e5 e6 e7 e8 r
 exact ⟨a,o,fd,c,oc,vs,t,e1,k _ _ (.inr (.inl ⟨e3,fd,e4⟩)) e2,e3,e4,e5,k _ _ (.inr (.inr ⟨e7,vs,e8⟩)) e6,e7,e8,r⟩
mutual
theorem VR.keep {h h':Heap} (k:KW h h'):∀ {x:V} {v:Value},VR h x v→VR h' x v
 | .none,_,e=>e
 | .bool _,_,e=>e
 | .int _,_,e=>e
 | .str _,_,e=>e
 | .bytes _,_,e=>e
 | .ref _,_,e=>e
 | .tup _,_,e=>by
  refine x32 e ?_;clear e;intro a n vs e1 e2 e3
  exact ⟨a,n,vs,e1,k _ _ .tup e2,VRs.keep k e3⟩
 | .lam,_,e=>k0v.keep k e
theorem VRs.keep {h h':Heap} (k:KW h h'):∀ {x:List V} {v:List Value},VRs h x v→VRs h' x v
 | [],_,e=>e
 | _::_,_,e=>by
  refine x22 e ?_;clear e;intro v r e1 e2 e3
  exact ⟨v,r,e1,VR.keep k e2,VRs.keep k e3⟩
end
theorem VRs.nil {h:Heap}:VRs h [] []:=rfl
theorem VRs.cons {h:Heap} {x:V} {xs:List V} {v:Value} {vs:List Value} (a:VR h x v) (b:VRs h xs vs):VRs h (x::xs) (v::vs):=⟨v,vs,rfl,a,b⟩
theorem VRs.length {h:Heap}:∀ {xs:List V} {vs:List Value},VRs h xs vs→vs.length=xs.length
 | [],_,e=>by refine er (show _=[] from e) ?_;rfl
 | _::_,_,e=>by
  refine x22 e ?_;clear e;intro v r zr2 z9 e3;subst zr2
  simp[VRs.length e3]
theorem VRs.append {h:Heap}:∀ {xs ys:List V} {vs ws:List Value},VRs h xs vs→VRs h ys ws→VRs h (xs++ys) (vs++ws)
 | [],_,_,_,e,f=>by refine er (show _=[] from e) ?_;exact f
 | x::xs,_,_,_,e,f=>by
  refine x22 e ?_;clear e;intro v r zr2 e2 e3;subst zr2
  exact .cons e2 (e3.append f)
theorem VRs.get {h:Heap}:∀ {xs:List V} {vs:List Value} {i:Nat} {x:V},VRs h xs vs→xs[i]?=some x→∃ v,vs[i]?=some v∧VR h x v
 | [],_,_,_,_,q=>by simp at q
 | y::ys,_,i,x,e,q=>by
  refine x22 e ?_;clear e;intro v r zr2 e2 e3;subst zr2
  cases i with
  | zero=>simp at q;subst q;exact ⟨v,by simp,e2⟩
  | succ i=>refine x11 (VRs.get e3 (i:=i) (by simpa using q)) fun w a b=>?_;exact ⟨w,by simpa using a,b⟩
inductive Key where
 | str (s:List Nat)
 | bytes (b:List UInt8)
 deriving DecidableEq
noncomputable def Key.v:Key→V
 | .str s=>.str s
 | .bytes b=>.bytes b
noncomputable def V.key?:V→Option Key
 | .str s=>some (.str s)
 | .bytes b=>some (.bytes b)
 | _=>Option.none
theorem V.key_eq {x:V} {k:Key} (h:x.key?=some k):x=k.v:=by
 cases x <;> first | (injection h;done) | exact Option.some.inj h▸rfl
noncomputable def Key.is:Key→Value→Bool
 | .str s,v=>(match v with | .str y _=>y==ke s | _=>false)
 | .bytes b,v=>(match v with | .bytes y _=>y==b.toArray | _=>false)
theorem Key.is_shape {k:Key} {v:Value} (h:k.is v=true):(∃ s t,k=.str s∧v=.str (ke s) t)∨(∃ b t,k=.bytes b∧v=.bytes b.toArray t):=by
 cases k with
 | str s=>cases v with
  | str y t=>exact .inl ⟨s,t,rfl,congrArg (Value.str · t) (eq_of_beq h)⟩
  | _=>exact ft h
 | bytes b=>cases v with
  | bytes y t=>exact .inr ⟨b,t,rfl,congrArg (Value.bytes · t) (eq_of_beq h)⟩
  | _=>exact ft h
theorem Key.is_of {h:Heap} {k:Key} {v:Value} (e:VR h k.v v):k.is v=true:=by
 cases k <;> (obtain ⟨t,rfl⟩:=e;exact BEq.rfl)
theorem Key.vr_of {h:Heap} {k:Key} {v:Value} (e:k.is v=true):VR h k.v v:=by
 rcases k.is_shape e with ⟨s,t,rfl,rfl⟩ | ⟨b,t,rfl,rfl⟩ <;> exact ⟨_,rfl⟩
section
theorem Zz:isSubtype (.type "bytes") (.type "str")=pure false:=by refine er (isSubtype_type _ _) ?_;kernel_rfl
theorem Wk:isSubtype (.type "str") (.type "bytes")=pure false:=by refine er (isSubtype_type _ _) ?_;kernel_rfl
theorem yf (a:Str) (t:Tok) (b:Array UInt8) (u:Tok):Gives (Builtin.«str.__eq__» ⟨[.str a t,.bytes b u],[]⟩) (.val (Value.notImplemented)) :=
 .of_wp fun M A E s Q h=>by obtain ⟨hp,g,d,tk,os⟩:=s;wp_walk;exact ⟨_,rfl,h⟩
theorem WW (a:Str) (t:Tok) (b:Array UInt8) (u:Tok):Gives (Builtin.«bytes.__eq__» ⟨[.bytes b u,.str a t],[]⟩) (.val (Value.notImplemented)) :=
 .of_wp fun M A E s Q h=>by
  obtain ⟨hp,g,d,tk,os⟩:=s;wp_walk
  refine er Wk ?_
  exact wpAny_pure (wpAny_bind (wpAny_rule (wpAny_pure ⟨_,rfl,h⟩)))
theorem JQ:Slot "bytes" (cmpInfo .Eq).2.2 "bytes.__eq__" :=
 .of (owner := "bytes") (n := "__eq__") (by rw[typeLookup_type,builtinLookup_eq_fast];kernel_rfl) (by decide +kernel) (by decide +kernel) (by decide +kernel)
  (by first | exact .inl (by decide +kernel) | exact .inr (by decide +kernel)) (by refine er (isSubtype_type _ _) ?_;kernel_rfl)
variable {prog:Program} {w:World} {A:Around} {E:Value→Shared→Prop} {s:Shared}
theorem UF {a:Str} {t:Tok} {b:Array UInt8} {u:Tok} {Q:Value→Shared→Prop} (h:Q (.bool false) s):wpAny (model prog w) A (richCompare .Eq (.str a t) (.bytes b u)) Q E s :=
 EqNone.wpAny_richCompare_eq_decline (k:=false) (fun s'=>typeIs_str s' a t) (fun s'=>typeIs_bytes s' b u) (by decide) Zz F.slot_str_eq JQ rfl
  (call_gives F.slot_str_eq (typeIs_str s a t) F.entry_str_eq (F.args_str_eq_2 _ _) (yf a t b u)
   ⟨rfl,call_gives JQ (typeIs_bytes s b u) FB.entry_bytes_eq (FB.args_bytes_eq_2 _ _) (WW a t b u) ⟨rfl,h⟩⟩)
theorem UL {a:Str} {t:Tok} {b:Array UInt8} {u:Tok} {Q:Value→Shared→Prop} (h:Q (.bool false) s):wpAny (model prog w) A (richCompare .Eq (.bytes b u) (.str a t)) Q E s :=
 EqNone.wpAny_richCompare_eq_decline (k:=false) (fun s'=>typeIs_bytes s' b u) (fun s'=>typeIs_str s' a t) (by decide) Wk FB.slot_bytes_eq F.slot_str_eq_refl rfl
  (call_gives FB.slot_bytes_eq (typeIs_bytes s b u) FB.entry_bytes_eq (FB.args_bytes_eq_2 _ _) (WW a t b u)
   ⟨rfl,call_gives F.slot_str_eq_refl (typeIs_str s a t) F.entry_str_eq (F.args_str_eq_2 _ _) (yf a t b u) ⟨rfl,h⟩⟩)
theorem yC {a:Str} {t:Tok} {b:Array UInt8} {u:Tok} {Q:Bool→Shared→Prop} (h:Q false s):wpAny (model prog w) A (eqBool (.str a t) (.bytes b u)) Q E s:=by
 unfold eqBool
 refine wpAny_holding ?_
 refine er (if_neg (by simp)) ?_
 exact wpAny_bind (UF (wpAny_truthy_bool h))
theorem yv {a:Str} {t:Tok} {b:Array UInt8} {u:Tok} {Q:Bool→Shared→Prop} (h:Q false s):wpAny (model prog w) A (eqBool (.bytes b u) (.str a t)) Q E s:=by
 unfold eqBool
 refine wpAny_holding ?_
 refine er (if_neg (by simp)) ?_
 exact wpAny_bind (UL (wpAny_truthy_bool h))
end
noncomputable def kB (prog:Program) (w:World):KeyKind prog w Key where
 is:=Key.is
 hash k:=match k with
  | .str s=>hashStr w (ke s)
  | .bytes b=>hashW w.params (.bytes b)
 inj v a b ha hb:=by
  rcases a.is_shape ha with ⟨s,t,rfl,rfl⟩ | ⟨s,t,rfl,rfl⟩ <;> rcases b.is_shape hb with ⟨s',t',rfl,e⟩ | ⟨s',t',rfl,e⟩ <;> simp_all
 byValue k v h:=by rcases k.is_shape h with ⟨s,t,rfl,rfl⟩ | ⟨s,t,rfl,rfl⟩ <;> rfl
 pyHash:=fun {A E s k v Q} hv h=>by
  rcases k.is_shape hv with ⟨s,t,rfl,rfl⟩ | ⟨s,t,rfl,rfl⟩
  ·exact (PySem.strKind prog w).pyHash (k:=ke s) (by simp[PySem.strKind,Value.isStrOf]) h
  ·exact (bytesKind prog w).pyHash (k:=s) (by simp[bytesKind,isBytes]) h
 eqBool:=fun {A E s a b u v Q} hu hv h=>by
  rcases a.is_shape hu with ⟨x,t,rfl,rfl⟩ | ⟨x,t,rfl,rfl⟩ <;> rcases b.is_shape hv with ⟨y,t',rfl,rfl⟩ | ⟨y,t',rfl,rfl⟩
  ·exact (PySem.strKind prog w).eqBool (a:=ke x) (b:=ke y) (by simp[PySem.strKind,Value.isStrOf]) (by simp[PySem.strKind,Value.isStrOf]) (by simpa using h)
  ·exact yC (by simpa using h)
  ·exact yv (by simpa using h)
  ·exact (bytesKind prog w).eqBool (a:=x) (b:=y) (by simp[bytesKind,isBytes]) (by simp[bytesKind,isBytes]) (by simpa using h)
 «strs» k x t v h:=by
  rcases k.is_shape h with ⟨s,t',rfl,e⟩ | ⟨s,t',rfl,e⟩
  ·injection e with e1 e2
   subst e1
   cases v <;> rfl
  ·injection e
noncomputable def KvR (h:Heap):List (V×V)→List (Key×Value)→Prop
 | [],ps=>ps=[]
 | (k,x)::r,ps=>∃ q v qs,ps=(q,v)::qs∧k=q.v∧VR h x v∧KvR h r qs
theorem KvR.keep {h h':Heap} (k:KW h h'):∀ {kvs:List (V×V)} {ps:List (Key×Value)},KvR h kvs ps→KvR h' kvs ps
 | [],_,e=>e
 | (_,_)::_,_,e=>by
  refine x33 e ?_;clear e;intro q v qs e1 e2 e3 e4
  exact ⟨q,v,qs,e1,e2,e3.keep k,e4.keep k⟩
section
variable (prog:Program) (w:World)
noncomputable def qT (h:Heap) (a:Addr):yO→Prop
 | .list xs=>∃ vs n,h.get? a=some (KH vs n)∧VRs h xs vs
 | .dict kvs=>∃ ps,h.DictOf (kB prog w) a ps∧KvR h kvs ps
 | .tab p q=>∃ ps,h.get? a=some (k3n ps)∧TriplesOk ps.toList∧(codeAmong p ps.toList=none∨∃ c oc vs t,codeAmong p ps.toList=some (.ref c)∧h.get? c=some oc∧oc.cls=.type "code" ∧ oc.data=.fields vs∧vs[1]?=some (.str q t))
 | .inst C d=>∃ dt sl,h.get? a=some ⟨.ref C,some d,dt,sl⟩∧notCls ⟨.ref C,some d,dt,sl⟩=true∧(∀ xs n,dt≠.seq xs n)∧(∀ v,dt≠.cell v)
noncomputable def Own (σ:Sto) (h:Heap):Prop:=∀ a c,σ.get a=some c→qT prog w h a c
noncomputable abbrev frs (l:List Env):List Addr:=l.filterMap (·.frame)
noncomputable def Ext (fs:List Addr) (X:Addr→Prop) (h h':Heap):Prop :=
 ∀ b o,h.get? b=some o→¬ X b→(b∉fs→h'.get? b=some o)∧∃ sl,h'.get? b=some { o with slots:=sl }
noncomputable def Dom (σ:Sto) (h:Heap) (σ':Sto):Prop:=(∀ a,σ.get a≠none→σ'.get a≠none)∧∀ a,σ'.get a≠none→σ.get a≠none∨h.get? a=none
noncomputable abbrev Sto.has (σ:Sto) (a:Addr):Prop:=σ.get a≠none
structure Inv (b0:Heap) (os0:OsState) (l:List Env) (σ:Sto) (s:Shared):Prop where
 own:Own prog w σ s.heap
 stay:b0.StaysIn s.heap
 off:∀ a,σ.has a→b0.get? a=none
 frames:s.heap.FunFrames b0 l
 offF:∀ a,σ.has a→a∉frs l
 frD:∀ b∈frs l,∃ o es n,s.heap.get? b=some o∧o.data=.dict es n
 gens:s.gens=#[]
 os:s.os=os0
end
section
variable {prog:Program} {w:World} {b0:Heap} {os0:OsState} {l:List Env} {σ σ' σ₁ σ₂:Sto} {s s' s₁ s₂:Shared} {h h' h₁ h₂:Heap} {fs:List Addr} {X:Addr→Prop}
theorem Ext.refl:Ext fs X h h:=fun z9 o e z9=>⟨fun z9=>e,o.slots,e⟩
theorem Ext.of_keeps (k:∀ b o,h.get? b=some o→¬ X b→h'.get? b=some o):Ext fs X h h':=fun b o e n=>⟨fun z9=>k b o e n,o.slots,k b o e n⟩
theorem Ext.mono {Y:Addr→Prop} (x:Ext fs X h h') (k:∀ b,X b→Y b):Ext fs Y h h':=fun b o e n=>x b o e fun q=>n (k b q)
theorem Ext.trans {Y:Addr→Prop} (x:Ext fs X h h₁) (y:Ext fs Y h₁ h₂) (k:∀ b o,h.get? b=some o→¬ X b→¬ Y b):Ext fs X h h₂:=fun b o e n=>by
 obtain ⟨x1,sl,x2⟩:=x b o e n
 have nY:=k b o e n
 refine ⟨fun hb=>(y b o (x1 hb) nY).1 hb,?_⟩
 obtain ⟨_,sl',y2⟩:=y b _ x2 nY
 exact ⟨sl',y2⟩
theorem Dom.refl:Dom σ h σ:=⟨fun z9 e=>e,fun z9 e=>.inl e⟩
theorem Dom.not (D:Dom σ h σ') {b:Addr} {o:Obj} (e:h.get? b=some o) (n:¬ σ.has b):¬ σ'.has b:=fun q=>by
 rcases D.2 b q with q | q
 ·exact n q
 ·rw[e] at q;injection q
structure kQ (prog:Program) (w:World) (b0:Heap) (os0:OsState) (l:List Env) (σ:Sto) (s:Shared) (σ':Sto) (s':Shared):Prop where
 inv:Inv prog w b0 os0 l σ' s'
 pre:∃ pre,σ'=pre++σ∧Ext (frs l) (fun b=>b∈pre.map (·.1)) s.heap s'.heap
 dom:Dom σ s.heap σ'
theorem Sto.has_pre {pre σ:Sto} {b:Addr} (m:b∈pre.map (·.1)):Sto.has (pre++σ) b:=by
 induction pre with
 | nil=>simp at m
 | cons p r ih =>
  obtain ⟨c,d⟩:=p
  simp only[List.map_cons,List.mem_cons] at m
  show Sto.get ((c,d)::(r++σ)) b≠none
  show (if c=b then some d else Sto.get (r++σ) b)≠none
  by_cases z:c=b
  ·refine er (if_pos z) ?_;simp
  ·refine er (if_neg z) ?_;exact ih (m.resolve_left (fun e=>z e.symm))
theorem Sto.get_pre {pre σ:Sto} {b:Addr} (m:b∉pre.map (·.1)):Sto.get (pre++σ) b=σ.get b:=by
 induction pre with
 | nil=>rfl
 | cons p r ih =>
  obtain ⟨c,d⟩:=p
  simp only[List.map_cons,List.mem_cons,not_or] at m
  show Sto.get ((c,d)::(r++σ)) b=_
  show (if c=b then some d else Sto.get (r++σ) b)=_
  refine er (if_neg (fun e=>m.1 e.symm)) ?_;exact ih m.2
theorem kQ.ext (x:kQ prog w b0 os0 l σ s σ' s'):Ext (frs l) σ.has s.heap s'.heap:=by
 refine x11 x.pre fun pre e x1=>?_
 intro b o hb n
 refine x1 b o hb fun m=>?_
 have:=x.dom.2 b (e▸Sto.has_pre m)
 rcases this with q | q
 ·exact n q
 ·rw[hb] at q;injection q
theorem kQ.refl (I:Inv prog w b0 os0 l σ s):kQ prog w b0 os0 l σ s σ s:=⟨I,⟨[],rfl,.refl⟩,.refl⟩
theorem kQ.trans (x:kQ prog w b0 os0 l σ s σ₁ s₁) (y:kQ prog w b0 os0 l σ₁ s₁ σ₂ s₂):kQ prog w b0 os0 l σ s σ₂ s₂:=by
 refine ⟨y.inv,?_,fun a e=>y.dom.1 a (x.dom.1 a e),fun a e=>?_⟩
 ·refine x11 x.pre fun p1 e1 x1=>?_
  refine x11 y.pre fun p2 e2 x2=>?_
  refine ⟨p2++p1,by refine er e2 ?_;refine er e1 ?_;refine er (List.append_assoc _ _ _) ?_;rfl,?_⟩
  refine Ext.trans (X:=fun b=>b∈(p2++p1).map (·.1)) (x1.mono fun b m=>?_) x2 fun b o e n m=>n ?_
  ·refine er List.map_append ?_;exact List.mem_append_right _ m
  ·refine er List.map_append ?_;exact List.mem_append_left _ m
 ·rcases y.dom.2 a e with q | q
  ·exact x.dom.2 a q
  ·by_cases z:σ.has a
   ·exact .inl z
   ·right
    cases r:s.heap.get? a with
    | none=>rfl
    | some o =>
     obtain ⟨_,sl,k⟩:=x.ext a o r z
     rw[q] at k;injection k
theorem qT.notStill {a:Addr} {c:yO} (e:qT prog w h a c) {o:Obj} (st:JS o) (q:h.get? a=some o):False:=by
 cases c with
 | list xs =>
  refine x21 e ?_;clear e;intro z9 z9 e z9;rw[e] at q;injection q with q;subst q
  rcases st with ⟨vs,n,e⟩ | ⟨e,_⟩ | ⟨e,_⟩
  ·simp at e
  ·simp at e
  ·simp at e
 | dict kvs =>
  refine x11 e ?_;clear e;intro ps zn1 z9;obtain ⟨o,es,ep,ho,hx,hd,_⟩:=zn1;rw[ho] at q;injection q with q;subst q
  rcases st with ⟨vs,n,e⟩ | ⟨e,_⟩ | ⟨e,_⟩
  ·subst e;injection hd
  ·rw[hx.1] at e;simp at e
  ·rw[hx.1] at e;simp at e
 | inst C d =>
  refine x21 e ?_;clear e;intro z9 z9 e z9;rw[e] at q;injection q with q;subst q
  rcases st with ⟨vs,n,e⟩ | ⟨e,_⟩ | ⟨e,_⟩
  ·cases e
  ·injection e
  ·injection e
 | tab p q' =>
  refine x11 e ?_;clear e;intro z9 e z9;rw[e] at q;injection q with q;subst q
  rcases st with ⟨vs,n,e⟩ | ⟨e,_⟩ | ⟨e,_⟩
  ·cases e
  ·injection e
  ·injection e
theorem Inv.tupKeep (I:Inv prog w b0 os0 l σ s) (x:Ext (frs l) σ.has s.heap h'):KW s.heap h':=fun a oo st e=>by
 refine (x a _ e fun q=>?_).1 fun q=>?_
 ·cases z:σ.get a with
  | none=>exact q z
  | some c=>exact (I.own a c z).notStill st e
 ·refine x31 (I.frD a q) fun o es n' ho hd=>?_
  rw[ho] at e;injection e with e;subst e
  rcases st with ⟨vs,n,e⟩ | ⟨_,_,e⟩ | ⟨_,_,e⟩
  ·subst e;injection hd
  ·rw[hd] at e;injection e
  ·rw[hd] at e;injection e
theorem kQ.tupKeep (I:Inv prog w b0 os0 l σ s) (x:kQ prog w b0 os0 l σ s σ' s'):KW s.heap s'.heap:=I.tupKeep x.ext
theorem kQ.vr (I:Inv prog w b0 os0 l σ s) (x:kQ prog w b0 os0 l σ s σ' s') {y:V} {v:Value} (e:VR s.heap y v):VR s'.heap y v:=e.keep (x.tupKeep I)
theorem kQ.vrs (I:Inv prog w b0 os0 l σ s) (x:kQ prog w b0 os0 l σ s σ' s') {y:List V} {v:List Value} (e:VRs s.heap y v):VRs s'.heap y v:=e.keep (x.tupKeep I)
theorem qT.of_get {a:Addr} {c:yO} (e:qT prog w h a c) (k:KW h h') (g:∀ o,h.get? a=some o→h'.get? a=some o):qT prog w h' a c:=by
 cases c with
 | list xs=>refine x21 e ?_;clear e;intro vs n e r;exact ⟨vs,n,g _ e,r.keep k⟩
 | dict kvs=>refine x11 e ?_;clear e;intro ps zn1 z;obtain ⟨o,es,ep,ho,r⟩:=zn1;exact ⟨ps,⟨o,es,ep,g _ ho,r⟩,z.keep k⟩
 | inst C d=>refine x21 e ?_;clear e;intro dt sl e r;exact ⟨dt,sl,g _ e,r⟩
 | tab p q =>
  refine x12 e ?_;clear e;intro ps e r z
  refine ⟨ps,g _ e,r,?_⟩
  rcases z with z | ⟨c,oc,vs,t,z1,z2,z3,z4,z5⟩
  ·exact .inl z
  ·exact .inr ⟨c,oc,vs,t,z1,k _ _ (.inr (.inr ⟨z3,vs,z4⟩)) z2,z3,z4,z5⟩
theorem US {b:Addr} (k:∀ b o,h.get? b=some o→h'.get? b=some o) (f:∀ b∈frs l,∃ o es n,h.get? b=some o∧o.data=.dict es n):∀ b∈frs l,∃ o es n,h'.get? b=some o∧o.data=.dict es n:=fun b hb=>by
 refine x31 (f b hb) fun o es n e d=>?_
 exact ⟨o,es,n,k _ _ e,d⟩
theorem Inv.grow (I:Inv prog w b0 os0 l σ s) {s':Shared} (k:∀ b o,s.heap.get? b=some o→s'.heap.get? b=some o) (g:s'.gens=s.gens) (o:s'.os=s.os):Inv prog w b0 os0 l σ s' where
 own a c e:=(I.own a c e).of_get (fun z9 z9 z9 q=>k _ _ q) (fun z9 q=>k _ _ q)
 stay b o e:=k _ _ (I.stay b o e)
 off:=I.off
 frames:=I.frames.of_keeps fun b o e z9=>⟨o,k _ _ e,rfl⟩
 offF:=I.offF
 frD:=US (b:=0) k I.frD
 gens:=g.trans I.gens
 os:=o.trans I.os
theorem kQ.grow (I:Inv prog w b0 os0 l σ s) {s':Shared} (k:∀ b o,s.heap.get? b=some o→s'.heap.get? b=some o) (g:s'.gens=s.gens:=by rfl) (o:s'.os=s.os:=by rfl):kQ prog w b0 os0 l σ s σ s' :=
 ⟨I.grow k g o,⟨[],rfl,.of_keeps fun b o e z9=>k b o e⟩,.refl⟩
theorem kQ.same (I:Inv prog w b0 os0 l σ s) {s':Shared} (k:s'.heap=s.heap:=by rfl) (g:s'.gens=s.gens:=by rfl) (o:s'.os=s.os:=by rfl):kQ prog w b0 os0 l σ s σ s' :=
 kQ.grow I (fun b o e=>by refine er k ?_;exact e) g o
theorem kQ.put (I:Inv prog w b0 os0 l σ s) {s':Shared} {a:Addr} {c:yO} (ha:σ.has a) (k:∀ b o,b≠a→s.heap.get? b=some o→s'.heap.get? b=some o)
  (e:qT prog w s'.heap a c) (g:s'.gens=s.gens:=by rfl) (o:s'.os=s.os:=by rfl):kQ prog w b0 os0 l σ s (σ.upd a c) s':=by
 have T:KW s.heap s'.heap:=fun b oo st q=>by
  by_cases z:b=a
  ·subst z
   cases y:σ.get b with
   | none=>exact (ha y).elim
   | some c'=>exact ((I.own b c' y).notStill st q).elim
  ·exact k _ _ z q
 have hb:∀ b,(σ.upd a c).has b→σ.has b:=fun b q=>by
  by_cases z:a=b
  ·subst z;exact ha
  ·simpa [Sto.has,z] using q
 refine ⟨⟨fun b c' q=>?_,fun b o' q=>?_,fun b q=>I.off b (hb b q),?_,fun b q=>I.offF b (hb b q),fun b q=>?_,g.trans I.gens,o.trans I.os⟩,⟨[(a,c)],rfl,fun b o' q n=>?_⟩,fun b q=>?_,fun b q=>.inl (hb b q)⟩
 ·by_cases z:a=b
  ·subst z;simp at q;subst q;exact e
  ·simp[z] at q
   exact (I.own b c' q).of_get T fun o' r=>k _ _ (Ne.symm z) r
 ·refine k _ _ (fun z=>?_) (I.stay b o' q)
  subst z;rw[I.off b ha] at q;injection q
 ·have hz:a∉frs l:=I.offF a ha
  have:∀ m:List Env,a∉frs m→s.heap.FunFrames b0 m→s'.heap.FunFrames b0 m:=by
   intro m
   induction m with
   | nil=>intro z9 z9;trivial
   | cons env r ih =>
    rintro h1 ⟨hk,⟨L,oL,hf,hn,ho,hd⟩,hr⟩
    have hL:L≠a:=fun z=>h1 (by simp[frs,List.filterMap_cons,hf,z])
    refine ⟨hk,⟨L,oL,hf,hn,k _ _ hL ho,hd⟩,ih (fun z=>h1 ?_) hr⟩
    rw[frs,List.filterMap_cons,hf];exact List.mem_cons_of_mem _ z
  exact this l hz I.frames
 ·refine x31 (I.frD b q) fun o' es n r d=>?_
  exact ⟨o',es,n,k _ _ (fun z=>I.offF a ha (z▸q)) r,d⟩
 ·have z:b≠a:=fun z=>n (by simp[z])
  exact ⟨fun z9=>k _ _ z q,o'.slots,k _ _ z q⟩
 ·by_cases z:a=b
  ·subst z;simp[Sto.has]
  ·simpa [Sto.has,z] using q
theorem kQ.new (I:Inv prog w b0 os0 l σ s) {s':Shared} {a:Addr} {c:yO} (ha:s.heap.get? a=none) (k:∀ b o,s.heap.get? b=some o→s'.heap.get? b=some o)
  (e:qT prog w s'.heap a c) (g:s'.gens=s.gens:=by rfl) (o:s'.os=s.os:=by rfl):kQ prog w b0 os0 l σ s (σ.upd a c) s':=by
 have hb:∀ b,(σ.upd a c).has b→b=a∨σ.has b:=fun b q=>by
  by_cases z:a=b
  ·exact .inl z.symm
  ·right;simpa [Sto.has,z] using q
 have G:=I.grow k g o
 refine ⟨⟨fun b c' q=>?_,G.stay,fun b q=>?_,G.frames,fun b q=>?_,G.frD,G.gens,G.os⟩,⟨[(a,c)],rfl,.of_keeps fun b o e z9=>k b o e⟩,fun b q=>?_,fun b q=>?_⟩
 ·by_cases z:a=b
  ·subst z;simp at q;subst q;exact e
  ·simp[z] at q;exact G.own b c' q
 ·rcases hb b q with rfl | q
  ·cases z:b0.get? b with
   | none=>rfl
   | some o'=>have:=I.stay b o' z;rw[ha] at this;injection this
  ·exact I.off b q
 ·rcases hb b q with rfl | q
  ·intro z;refine x31 (I.frD b z) fun o' es n r d=>?_;rw[ha] at r;injection r
  ·exact I.offF b q
 ·by_cases z:a=b
  ·subst z;simp[Sto.has]
  ·simpa [Sto.has,z] using q
 ·rcases hb b q with rfl | q
  ·exact .inr ha
  ·exact .inl q
end
section
noncomputable abbrev QV:=V→Sto→Prop
noncomputable abbrev QX:=Addr→Sto→Prop
noncomputable abbrev Loc:=List (Option V)
noncomputable abbrev Wq:List Nat:=[116,111,108,100]
noncomputable def qU:Addr:=0
noncomputable abbrev jH:=Addr→List V→Sto→QV→QX→Prop
inductive BOp where | add | sub | mul | fdiv | mod | shr | band
 deriving DecidableEq
inductive COp where | eq | ne | lt | le | gt | ge | isin | notin | is | isnot
 deriving DecidableEq
inductive BI where | len | chr | ord | bytes | str | int | all | sorted
 deriving DecidableEq
inductive MN where | sjoin | sfind | ssplit | bfind | brfind | bsplit | bpart | bjoin | lappend | lpop | dget | dsetdef | dpop
 deriving DecidableEq
set_option genCtorIdx false
set_option genInjectivity false
mutual
inductive IE where
 | cnone | cbool (b:Bool) | cint (i:Int) | cstr (s:List Nat) | cbytes (b:List UInt8)
 | loc (i:Nat)
 | glob (v:V)
 | bin (op:BOp) (l r:IE)
 | not (e:IE)
 | neg (e:IE)
 | and (l r:IE)
 | or (l r:IE)
 | cmp (op:COp) (l r:IE)
 | cmp2 (o1 o2:COp) (l m r:IE)
 | ife (c t e:IE)
 | attr (C:Addr) (name:List Nat) (o:IE)
 | sub (o i:IE)
 | slice (o:IE) (lo hi:Option IE)
 | rev (o:IE)
 | callF (f:Addr) (args:List IE)
 | callL (i:Nat) (args:List IE)
 | new (C:Addr) (args:List IE)
 | bi (f:BI) (args:List IE)
 | meth (m:MN) (o:IE) (args:List IE)
 | imeth (C f:Addr) (name:List Nat) (o:IE) (args:List IE)
 | list (es:List IE)
 | tup (es:List IE)
 | dict (kvs:List (List Nat×IE))
 | comp (caps:List Nat) (it:IT) (cond:Option IE) (elt:IE)
 | lam (P:Addr) (p:Pos) (q:PySem.Str)
inductive IT where
 | e (x:IE)
 | range (args:List IE)
end
inductive IS where
 | expr (e:IE)
 | asg (i:Nat) (e:IE)
 | asgT (is:List Nat) (e:IE)
 | setA (C:Addr) (name:List Nat) (o e:IE)
 | setI (o i e:IE)
 | augA (C:Addr) (name:List Nat) (op:BOp) (o e:IE)
 | augI (op:BOp) (o i e:IE)
 | ite (c:IE) (t f:List IS)
 | for1 (i:Nat) (it:IT) (body:List IS)
 | forT (is:List Nat) (it:IT) (body:List IS)
 | while (c:IE) (body:List IS)
 | ret (e:IE)
 | raise (C:Addr) (args:List IE)
 | tryE (body:List IS) (C:Addr) (as:Option Nat) (h:List IS)
 | pass
set_option genCtorIdx true
set_option genInjectivity true
noncomputable def kE (kvs:List (V×V)) (k:Key):Option V:=match kvs with
 | []=>none
 | (x,v)::r=>if x.key?=some k then some v else kE r k
noncomputable def Kr (kvs:List (V×V)) (k:Key) (v:V):List (V×V):=match kvs with
 | []=>[(k.v,v)]
 | (x,y)::r=>if x.key?=some k then (x,v)::r else (x,y)::Kr r k v
noncomputable def jS (kvs:List (V×V)) (k:Key):List (V×V):=match kvs with
 | []=>[]
 | (x,y)::r=>if x.key?=some k then r else (x,y)::jS r k
noncomputable abbrev kt:Nat:=16777216
noncomputable def kT {α:Type} (o:Option α) (Q:α→Prop):Prop:=match o with
 | some x=>Q x
 | none=>False
theorem su {α:Type} {o:Option α} {Q:α→Prop} {G:Prop} (h:kT o Q) (k:∀ x,o=some x→Q x→G):G:=by
 cases o with
 | none=>exact h.elim
 | some x=>exact k x rfl h
theorem kN {α:Type} {o:Option α} {Q:α→Prop} {x:α} (h:o=some x) (q:Q x):kT o Q:=by subst h;exact q
noncomputable def uB:V→Option Unit
 | .none=>some ()
 | _=>none
noncomputable def uD:V→Option Bool
 | .bool b=>some b
 | _=>none
noncomputable def qF:V→Option Int
 | .int i=>some i
 | _=>none
noncomputable def qk:V→Option (List Nat)
 | .str s=>some s
 | _=>none
noncomputable def qC:V→Option (List UInt8)
 | .bytes b=>some b
 | _=>none
noncomputable def jq:V→Option Addr
 | .ref a=>some a
 | _=>none
noncomputable def zK:V→Option (List V)
 | .tup xs=>some xs
 | _=>none
noncomputable def asL:Option yO→Option (List V)
 | some (.list xs)=>some xs
 | _=>none
noncomputable def asD:Option yO→Option (List (V×V))
 | some (.dict kvs)=>some kvs
 | _=>none
noncomputable def asN:Option yO→Option (Addr×Addr)
 | some (.inst C d)=>some (C,d)
 | _=>none
section
variable {v:V} {o:Option yO}
theorem uz {x:Unit} (e:uB v=some x):v=.none:=by cases v <;> first | rfl | injection e
theorem UH {x:Bool} (e:uD v=some x):v=.bool x:=by cases v <;> first | exact congrArg _ (Option.some.inj e) | injection e
theorem k2i {x:Int} (e:qF v=some x):v=.int x:=by cases v <;> first | exact congrArg _ (Option.some.inj e) | injection e
theorem k1i {x:List Nat} (e:qk v=some x):v=.str x:=by cases v <;> first | exact congrArg _ (Option.some.inj e) | injection e
theorem k2s {x:List UInt8} (e:qC v=some x):v=.bytes x:=by cases v <;> first | exact congrArg _ (Option.some.inj e) | injection e
theorem k1w {x:Addr} (e:jq v=some x):v=.ref x:=by cases v <;> first | exact congrArg _ (Option.some.inj e) | injection e
theorem k58 {x:List V} (e:zK v=some x):v=.tup x:=by cases v <;> first | exact congrArg _ (Option.some.inj e) | injection e
theorem YW {xs:List V} (e:asL o=some xs):o=some (.list xs):=by
 cases o with
 | none=>injection e
 | some c=>cases c <;> first | exact congrArg (fun x=>some (yO.list x)) (Option.some.inj e) | injection e
theorem Zc {xs:List (V×V)} (e:asD o=some xs):o=some (.dict xs):=by
 cases o with
 | none=>injection e
 | some c=>cases c <;> first | exact congrArg (fun x=>some (yO.dict x)) (Option.some.inj e) | injection e
theorem k92 {x:Addr×Addr} (e:asN o=some x):o=some (.inst x.1 x.2):=by
 cases o with
 | none=>injection e
 | some c=>cases c <;> first | exact congrArg (fun x:Addr×Addr=>some (yO.inst x.1 x.2)) (Option.some.inj e) | injection e
theorem inL {P:List V→Prop} {G:Prop} (q:kT (asL o) P) (k:∀ xs,o=some (.list xs)→P xs→G):G:=su q fun xs e q=>k xs (YW e) q
theorem inD {P:List (V×V)→Prop} {G:Prop} (q:kT (asD o) P) (k:∀ xs,o=some (.dict xs)→P xs→G):G:=su q fun xs e q=>k xs (Zc e) q
theorem okL {P:List V→Prop} {xs:List V} (h:o=some (.list xs)) (q:P xs):kT (asL o) P:=by subst h;exact q
theorem okD {P:List (V×V)→Prop} {xs:List (V×V)} (h:o=some (.dict xs)) (q:P xs):kT (asD o) P:=by subst h;exact q
theorem okN {P:Addr×Addr→Prop} {C d:Addr} (h:o=some (.inst C d)) (q:P (C,d)):kT (asN o) P:=by subst h;exact q
end
noncomputable def one {α:Type}:List α→Option α
 | [a]=>some a
 | _=>none
theorem KP {α:Type} {l:List α} {a:α} (h:one l=some a):l=[a]:=by
 cases l with
 | nil=>injection h
 | cons b r=>cases r with
  | nil=>exact congrArg (·::[]) (Option.some.inj h)
  | cons=>injection h
noncomputable def has {α:Type} (o:Option α) (p:α→Bool):Bool:=match o with
 | some x=>p x
 | none=>false
theorem kS {α:Type} {o:Option α} {p:α→Bool} (h:has o p=true):∃ x,o=some x∧p x=true:=by
 cases o with
 | none=>injection h
 | some x=>exact ⟨x,rfl,h⟩
theorem hs {α:Type} {o:Option α} {p:α→Bool} {G:Prop} (h:has o p=true) (k:∀ x,o=some x→p x=true→G):G:=by
 cases o with
 | none=>injection h
 | some x=>exact k x rfl h
noncomputable def zC {α:Type} (f:V→Option α):List V→Option (List α)
 | []=>some []
 | v::r=>(f v).bind fun a=>(zC f r).map (a::·)
theorem Qu {α:Type} {f:V→Option α} {g:α→V} (h:∀ a,f (g a)=some a):∀ l,zC f (l.map g)=some l
 | []=>rfl
 | a::l=>by
  show (f (g a)).bind (fun a=>(zC f (l.map g)).map (a::·))=_
  refine er (h _) ?_;rw[Qu h l];rfl
theorem om {α β:Type} {o:Option α} {f:α→β} {y:β} {G:Prop} (h:o.map f=some y) (k:∀ x,o=some x→f x=y→G):G:=by
 cases o with
 | none=>injection h
 | some x=>exact k x rfl (Option.some.inj h)
noncomputable def ZT (v:V) (σ:Sto) (Q:Bool→Prop):Prop:=match v with
 | .bool b=>Q b
 | .none=>Q false
 | .int i=>Q (i != 0)
 | .ref a=>kT (asL (σ.get a)) fun xs=>xs.length≤kt∧Q (!xs.isEmpty)
 | _=>False
noncomputable def K0Q (op:BOp) (a b:Int) (P:Int→Prop):Prop:=match op with
 | .add=>P (a+b)
 | .sub=>P (a-b)
 | .mul=>IntMulOk a b∧P (a*b)
 | .fdiv=>b≠0∧Builtin.divisionGoesByPylong a b=false∧P (a.fdiv b)
 | .mod=>b≠0∧P (a.fmod b)
 | .shr=>0≤b∧P (a.fdiv (2^b.toNat))
 | .band=>P (Builtin.bitAnd a b)
noncomputable def k4X (op:BOp) (P:Prop):Prop:=match op with
 | .add=>P
 | _=>False
theorem Wl {op:BOp} {P:Prop} (q:k4X op P):op=.add∧P:=by cases op <;> first | exact ⟨rfl,q⟩ | exact q.elim
noncomputable def k0s (op:BOp) (x y:V) (σ:Sto) (Q:QV):Prop:=match x with
 | .int a=>kT (qF y) fun b=>K0Q op a b fun c=>Q (.int c) σ
 | .str a=>kT (qk y) fun b=>k4X op (a.length+b.length≤kt∧Q (.str (a++b)) σ)
 | .bytes a=>kT (qC y) fun b=>k4X op (a.length+b.length≤kt∧Q (.bytes (a++b)) σ)
 | .ref a=>kT (jq y) fun b=>kT (asL (σ.get a)) fun xs=>kT (asL (σ.get b)) fun ys=>k4X op (xs.length+ys.length≤kt∧∀ r,¬ σ.has r→Q (.ref r) (σ.upd r (.list (xs++ys))))
 | .tup xs=>kT (zK y) fun ys=>k4X op (xs.length+ys.length≤kt∧Q (.tup (xs++ys)) σ)
 | _=>False
noncomputable def QZ (x y:V):Option Bool:=match x with
 | .none=>(uB y).bind fun z9=>some true
 | .bool a=>(uD y).bind fun b=>some (a==b)
 | .int a=>(qF y).bind fun b=>some (a==b)
 | .str a=>(qk y).bind fun b=>some (a==b)
 | .bytes a=>(qC y).bind fun b=>some (a==b)
 | _=>none
noncomputable def Qo (f:V→V→Option Bool):List V→List V→Option Bool
 | [],ys=>if ys.isEmpty=true then some true else none
 | x::xs,ys=>ys.head?.bind fun y=>(f x y).bind fun a=>(Qo f xs ys.tail).map (a&&·)
noncomputable def QL (x y:V):Option Bool:=match zK x with
 | some xs=>(zK y).bind fun ys=>if xs.length=ys.length then Qo QZ xs ys else none
 | none=>QZ x y
noncomputable abbrev wo:=Qo QL
noncomputable def eqV (x y:V) (σ:Sto):Option Bool:=match jq x with
 | some a=>(jq y).bind fun b=>match asL (σ.get a) with
  | some xs=>(asL (σ.get b)).bind fun ys=>if xs.length=ys.length then wo xs ys else some false
  | none=>(asD (σ.get a)).bind fun xs=>(asD (σ.get b)).bind fun ys=>if ys.isEmpty=true then some xs.isEmpty else none
 | none=>QL x y
noncomputable def k4w:V→Bool
 | .none=>true
 | _=>false
noncomputable def zG (x:V) (σ:Sto):List V→Option Bool
 | []=>some false
 | y::r=>(jq y).bind fun a=>(eqV (.ref a) x σ).bind fun p=>(zG x σ r).map (p||·)
noncomputable def inV (x y:V) (σ:Sto):Option Bool:=match jq y with
 | some a=>(match asL (σ.get a) with
  | some xs=>zG x σ xs
  | none=>(asD (σ.get a)).bind fun kvs=>x.key?.map fun k=>(kE kvs k).isSome)
 | none=>match qC y with
  | some b=>(qF x).bind fun i=>if 0≤i∧i<256 then some (b.any fun c=>((c.toNat:Nat):Int)==i) else none
  | none=>(qk y).bind fun s=>(qk x).bind fun c=>(one c).map fun c=>s.contains c
noncomputable def UB (y:V) (σ:Sto):Bool:=match jq y with
 | some a=>(asD (σ.get a)).isNone
 | none=>true
noncomputable def k38 (x y:V) (P:Int→Int→Prop):Prop:=kT (qF x) fun a=>kT (qF y) fun b=>P a b
noncomputable def k59 (op:COp) (x y:V) (σ:Sto) (Q:Bool→Prop):Prop:=match op with
 | .eq=>kT (eqV x y σ) Q
 | .ne=>UB y σ=true∧kT (eqV x y σ) fun b=>Q (!b)
 | .lt=>k38 x y fun a b=>Q (decide (a<b))
 | .le=>k38 x y fun a b=>Q (decide (a≤b))
 | .gt=>k38 x y fun a b=>Q (decide (b<a))
 | .ge=>k38 x y fun a b=>Q (decide (b≤a))
 | .isin=>kT (inV x y σ) Q
 | .notin=>kT (inV x y σ) fun b=>Q (!b)
 | .is=>kT (uB y) fun z9=>Q (k4w x)
 | .isnot=>kT (uB y) fun z9=>Q (!k4w x)
noncomputable def qA (i:Int) (n:Nat):Option Nat :=
 if 0≤i then (if i<n then some i.toNat else none) else if 0≤i+n then some (i+n).toNat else none
noncomputable def k2D (n:Nat) (lo:Option Int):Nat:=lo.elim 0 (clipAt n)
noncomputable def k2O (n:Nat) (hi:Option Int):Nat:=hi.elim n (clipAt n)
theorem yP {n:Nat} {k:Nat}:clipAt n (k:Nat)=min k n:=by
 unfold clipAt
 refine er (if_neg (Int.not_lt.2 (Int.natCast_nonneg k))) ?_
 rcases Nat.le_total k n with h | h
 ·exact er (Int.min_eq_left (Int.ofNat_le.2 h)) (er (Int.max_eq_right (Int.natCast_nonneg _)) (Nat.min_eq_left h).symm)
 ·exact er (Int.min_eq_right (Int.ofNat_le.2 h)) (er (Int.max_eq_right (Int.natCast_nonneg _)) (Nat.min_eq_right h).symm)
theorem k44 {l:Nat}:clipAt (l+1) (-1)=l:=by
 unfold clipAt;refine er (if_pos (by decide)) ?_
 refine er (show -1+((l+1:Nat):Int)=(l:Int) by rw[Int.natCast_add,Int.add_comm,Int.add_assoc];exact Int.add_zero _) ?_
 exact er (Int.min_eq_left (Int.ofNat_le.2 (Nat.le_succ _))) (er (Int.max_eq_right (Int.natCast_nonneg _)) rfl)
theorem k1D {n k:Nat} (h:k<n):(n:Int)-1-(k:Int)=((n-1-k:Nat):Int):=by
 obtain ⟨j,rfl⟩:=Nat.exists_eq_add_of_lt h
 exact er (show k+j+1-1-k=j from Nat.add_sub_cancel_left ..) (by rw[Int.natCast_add,Int.natCast_add];show (k:Int)+j+1-1-k=j;rw[Int.add_sub_cancel,Int.add_comm,Int.add_sub_cancel])
theorem k6B {n:Nat} {m:Int} (h0:0≤m) (h:m<n):(n:Int)-1-m=((n-1-m.toNat:Nat):Int):=by
 obtain ⟨k,rfl⟩:=Int.eq_ofNat_of_zero_le h0
 exact k1D (Int.ofNat_lt.1 h)
theorem k4Z {n:Nat} {m:Int} (h0:0≤m) (h:m<n):n-1-m.toNat<n:=by
 have h1:0<n:=Nat.lt_of_le_of_lt (Nat.zero_le _) ((Int.toNat_lt h0).2 h)
 exact Nat.lt_of_le_of_lt (Nat.sub_le _ _) (Nat.sub_lt h1 Nat.one_pos)
theorem k2C {n:Nat} {m:Int} (h0:0≤m) (h:m<n):qA (-1-m) n=some (n-1-m.toNat):=by
 obtain ⟨k,rfl⟩:=Int.eq_ofNat_of_zero_le h0
 have e : -1-(k:Int)+n=((n-1-k:Nat):Int):=by
  refine er (Int.add_comm ..) ?_
  refine er (Int.add_sub_assoc ..).symm ?_
  exact k1D (Int.ofNat_lt.1 h)
 have z:¬ (0:Int) ≤ -1-(k:Int):=fun q=>absurd (Int.le_trans q (Int.sub_le_self _ (Int.natCast_nonneg k))) (by decide)
 unfold qA
 exact er (if_neg z) (er e (er (if_pos (Int.natCast_nonneg _)) rfl))
theorem k8Z {n:Nat} {i:Int}:clipAt n i≤n:=Int.toNat_le.2 (Int.max_le.2 ⟨Int.natCast_nonneg n,Int.min_le_right _ _⟩)
noncomputable def JX {α:Type} (xs:List α) (lo hi:Option Int):List α:=(xs.take (k2O xs.length hi)).drop (k2D xs.length lo)
noncomputable abbrev k2g (b:Bool) (P:Prop):Prop:=match b with | true=>P | false=>False
theorem wB {b:Bool} {P:Prop} (q:k2g b P):b=true∧P:=by
 cases b
 ·exact q.elim
 ·exact ⟨rfl,q⟩
theorem kK {b:Bool} {P:Prop} (h:b=true) (p:P):k2g b P:=by subst h;exact p
theorem K1q {a b:Nat} {P:Prop} (q:k2g (Nat.beq a b) P):a=b∧P:=⟨Nat.eq_of_beq_eq_true (wB q).1,(wB q).2⟩
noncomputable def wM:Int→Bool
 | .ofNat n=>Nat.blt n 4611686018427387904
 | .negSucc n=>Nat.blt n 4611686018427387903
noncomputable def KI (i:Int):Prop := -(2^62)<i∧i<2^62
theorem jk {i:Int} (h:KI i):wM i=true:=by
 cases i with
 | ofNat n=>exact Nat.blt_eq.mpr (Int.ofNat_lt.1 h.2)
 | negSucc n=>exact Nat.blt_eq.mpr (by have:=h.1;lia)
theorem gsm {i:Int} {P:Prop} (q:k2g (wM i) P):KI i∧P:=by
 refine ⟨?_,(wB q).2⟩
 have h:=(wB q).1
 cases i with
 | ofNat n=>have:=Nat.blt_eq.mp h;exact ⟨by show -(2^62)<((n:Nat):Int);lia,Int.ofNat_lt.2 this⟩
 | negSucc n=>have:=Nat.blt_eq.mp h;exact ⟨by lia,by show _<((2^62:Nat):Int);lia⟩
noncomputable def YH (x y:V) (σ:Sto) (Q:QV):Prop:=match x with
 | .str s=>kT (qF y) fun i=>k2g (wM i) (kT (qA i s.length) fun k=>Q (.str [s.getD k 0]) σ)
 | .bytes b=>kT (qF y) fun i=>k2g (wM i) (kT (qA i b.length) fun k=>Q (.int ((b.getD k 0).toNat:Nat)) σ)
 | .tup xs=>kT (qF y) fun i=>k2g (wM i) (kT (qA i xs.length) fun k=>Q (xs.getD k .none) σ)
 | .ref a=>(match asL (σ.get a) with
  | some xs=>kT (qF y) fun i=>k2g (wM i) (kT (qA i xs.length) fun k=>Q (xs.getD k .none) σ)
  | none=>kT (asD (σ.get a)) fun kvs=>kT y.key? fun k=>kT (kE kvs k) fun v=>Q v σ)
 | _=>False
noncomputable def wd (x:V) (lo hi:Option Int) (σ:Sto) (Q:QV):Prop:=match x with
 | .str s=>s.length≤kt∧Q (.str (JX s lo hi)) σ
 | .bytes b=>b.length≤kt∧Q (.bytes (JX b lo hi)) σ
 | .tup xs=>(match hi with
  | none=>kT lo fun i=>1≤i∧i≤xs.length∧xs.length≤kt∧Q (.tup (xs.drop i.toNat)) σ
  | some _=>False)
 | .ref a=>kT (asL (σ.get a)) fun xs=>xs.length≤kt∧∀ r,¬ σ.has r→Q (.ref r) (σ.upd r (.list (JX xs lo hi)))
 | _=>False
noncomputable def k9e (x:V) (σ:Sto) (Q:QV):Prop:=kT (jq x) fun a=>kT (asL (σ.get a)) fun xs=>xs.length≤kt∧∀ r,¬ σ.has r→Q (.ref r) (σ.upd r (.list xs.reverse))
noncomputable def k1B (C:Addr) (x:V) (σ:Sto) (P:Addr→List (V×V)→Prop):Prop:=kT (jq x) fun a=>kT (asN (σ.get a)) fun p=>p.1=C∧kT (asD (σ.get p.2)) fun kvs=>P p.2 kvs
theorem zW {C:Addr} {x:V} {σ:Sto} {P:Addr→List (V×V)→Prop} {G:Prop} (q:k1B C x σ P) (k:∀ a d kvs,x=.ref a→σ.get a=some (.inst C d)→σ.get d=some (.dict kvs)→P d kvs→G):G :=
 su q fun a e q=>su q fun p ep q=>inD q.2 fun kvs ed qq=>k a p.2 kvs (k1w e) (q.1▸k92 ep) ed qq
noncomputable def wA (C:Addr) (name:List Nat) (x:V) (σ:Sto) (Q:QV):Prop:=k1B C x σ fun z9 kvs=>kT (kE kvs (.str name)) fun v=>Q v σ
noncomputable def uH (C:Addr) (name:List Nat) (x v:V) (σ:Sto) (Q:Sto→Prop):Prop:=k1B C x σ fun d kvs=>kvs.length≤1000∧Q (σ.upd d (.dict (Kr kvs (.str name) v)))
noncomputable def k1Z (x i v:V) (σ:Sto) (Q:Sto→Prop):Prop:=kT (jq x) fun a=>kT (asD (σ.get a)) fun kvs=>kT i.key? fun k=>kvs.length≤1000∧Q (σ.upd a (.dict (Kr kvs k v)))
noncomputable abbrev k2h:=zC uD
noncomputable abbrev WP:=zC qF
noncomputable abbrev k4a:=zC qk
noncomputable abbrev k1I:=zC qC
noncomputable def Kh (i:Int):List Nat:=(PySem.Str.ofString (toString i)).cps.toList
noncomputable def K2h (x:V) (σ:Sto) (Q:QV):Prop:=match x with
 | .str s=>s.length≤kt∧Q (.int s.length) σ
 | .bytes s=>s.length≤kt∧Q (.int s.length) σ
 | .ref a=>kT (asL (σ.get a)) fun ys=>ys.length≤kt∧Q (.int ys.length) σ
 | _=>False
noncomputable def k7y (x:V) (σ:Sto) (Q:QV):Prop:=match x with
 | .int i=>0≤i∧i≤1000∧Q (.bytes (List.replicate i.toNat 0)) σ
 | .bytes b=>Q (.bytes b) σ
 | .ref a=>kT (asL (σ.get a)) fun ys=>ys.length≤kt∧kT (WP ys) fun is=>(∀ i∈is,0≤i∧i<256)∧Q (.bytes (is.map fun i=>i.toNat.toUInt8)) σ
 | _=>False
noncomputable def bi1 (f:BI) (x:V) (σ:Sto) (Q:QV):Prop:=match f with
 | .len=>K2h x σ Q
 | .chr=>kT (qF x) fun i=>0≤i∧i<256∧Q (.str [i.toNat]) σ
 | .ord=>kT (qk x) fun s=>kT (one s) fun c=>Q (.int c) σ
 | .bytes=>k7y x σ Q
 | .str=>kT (qF x) fun i=>i.natAbs<10^10∧Q (.str (Kh i)) σ
 | .int=>kT (qF x) fun i=>Q (.int i) σ
 | .all=>kT (jq x) fun a=>kT (asL (σ.get a)) fun ys=>kT (k2h ys) fun bs=>Q (.bool (bs.all id)) σ
 | .sorted=>kT (jq x) fun a=>kT (asL (σ.get a)) fun ys=>ys.length≤1∧∀ r,¬ σ.has r→Q (.ref r) (σ.upd r (.list ys))
noncomputable def k9v (f:BI) (xs:List V) (σ:Sto) (Q:QV):Prop:=kT (one xs) fun x=>bi1 f x σ Q
noncomputable def KC {α:Type} [DecidableEq α] (p:List α):List α→Option Nat
 | []=>if p=[] then some 0 else none
 | c::r=>if (c::r).take p.length=p then some 0 else (KC p r).map (·+1)
noncomputable def jz {α:Type} [DecidableEq α] (c:α):List α→Option Nat
 | []=>none
 | d::r=>match jz c r with
  | some k=>some (k+1)
  | none=>if d=c then some 0 else none
noncomputable def kz {α:Type} [DecidableEq α] (c:α):List α→List (List α)
 | []=>[[]]
 | d::r=>if d=c then []::kz c r else match kz c r with
  | []=>[[d]]
  | p::q=>(d::p)::q
noncomputable def k12:Option Nat→Int
 | some k=>k
 | none => -1
noncomputable def jg (c:Nat):Bool:=c==32||c==9||c==10
noncomputable def kR {α:Type} (sep:List α):List (List α)→List α
 | []=>[]
 | [x]=>x
 | x::r=>x++sep++kR sep r
theorem wp {α:Type} (s:List α):kR s []=[]:=rfl
theorem wv {α:Type} (s x:List α):kR s [x]=x:=rfl
theorem wh {α:Type} (s x y:List α) (r:List (List α)):kR s (x::y::r)=x++s++kR s (y::r):=rfl
theorem qx {α:Type} [DecidableEq α] (c:α):kz c []=[[]]:=rfl
theorem Jn {α:Type} [DecidableEq α] (c d:α) (r:List α):kz c (d::r)=if d=c then []::kz c r else match kz c r with
  | []=>[[d]]
  | p::q=>(d::p)::q:=rfl
theorem k40 {α:Type} [DecidableEq α] (p:List α):KC p []=if p=[] then some 0 else none:=rfl
theorem k3r {α:Type} [DecidableEq α] (p:List α) (c:α) (r:List α):KC p (c::r)=if (c::r).take p.length=p then some 0 else (KC p r).map (·+1):=rfl
theorem k2j {α:Type} [DecidableEq α] (c:α):jz c []=none:=rfl
theorem k1O {α:Type} [DecidableEq α] (c d:α) (r:List α):jz c (d::r)=match jz c r with
  | some k=>some (k+1)
  | none=>if d=c then some 0 else none:=rfl
noncomputable def Ko:List Nat→List Nat→List (List Nat)
 | w,[]=>if w=[] then [] else [w]
 | w,c::r=>if jg c then (if w=[] then Ko [] r else w::Ko [] r) else Ko (w++[c]) r
theorem uk (w:List Nat):Ko w []=if w=[] then [] else [w]:=rfl
theorem Jj (w:List Nat) (c:Nat) (r:List Nat):Ko w (c::r)=if jg c then (if w=[] then Ko [] r else w::Ko [] r) else Ko (w++[c]) r:=rfl
noncomputable def jd (s:List Nat):List (List Nat):=Ko [] s
noncomputable def Kb (c:Nat):Bool:=c==32||c==9||c==10||(33≤c&&c<127)
noncomputable def uj (m:MN) (x:V) (σ:Sto):Bool:=match m with
 | .sjoin | .sfind | .ssplit=>(qk x).isSome
 | .bfind | .brfind | .bsplit | .bpart | .bjoin=>(qC x).isSome
 | .lappend | .lpop=>((jq x).bind fun a=>asL (σ.get a)).isSome
 | .dget | .dsetdef | .dpop=>((jq x).bind fun a=>asD (σ.get a)).isSome
noncomputable def k9B (xs:List V) (σ:Sto) (Q:QV):Prop:=∀ r,¬ σ.has r→Q (.ref r) (σ.upd r (.list xs))
noncomputable def k4R (xs:List V) (P:V→V→Prop):Prop:=match xs with
 | [x,y]=>P x y
 | _=>False
theorem YV {xs:List V} {P:V→V→Prop} {G:Prop} (q:k4R xs P) (k:∀ x y,xs=[x,y]→P x y→G):G:=by
 rcases xs with _ | ⟨x,_ | ⟨y,_ | ⟨z,r⟩⟩⟩ <;> first | exact k _ _ rfl q | exact q.elim
noncomputable def K01 (o:V) (σ:Sto) (P:Addr→List V→Prop):Prop:=kT (jq o) fun a=>kT (asL (σ.get a)) fun ys=>P a ys
noncomputable def K1d (o:V) (σ:Sto) (P:Addr→List (V×V)→Prop):Prop:=kT (jq o) fun a=>kT (asD (σ.get a)) fun ys=>P a ys
noncomputable def k7o (sep:List Nat) (xs:List V) (σ:Sto) (Q:QV):Prop:=kT (one xs) fun x=>K01 x σ fun z9 ys=>kT (k4a ys) fun ts=>(kR sep ts).length+sep.length≤kt∧Q (.str (kR sep ts)) σ
noncomputable def k7t (sep:List UInt8) (xs:List V) (σ:Sto) (Q:QV):Prop:=kT (one xs) fun x=>K01 x σ fun z9 ys=>kT (k1I ys) fun ts=>(kR sep ts).length≤kt∧Q (.bytes (kR sep ts)) σ
noncomputable def k7P (s:List Nat) (xs:List V) (σ:Sto) (Q:QV):Prop:=match xs with
 | []=>s.length≤1000000∧(∀ c∈s,Kb c=true)∧k9B ((jd s).map .str) σ Q
 | xs=>kT (one xs) fun x=>kT (qk x) fun p=>kT (one p) fun c=>s.length≤1000000∧k9B ((kz c s).map .str) σ Q
noncomputable def K1K (s:List UInt8) (p:List UInt8) (σ:Sto) (Q:QV):Prop:=match p with
 | []=>False
 | p=>s.length≤kt∧Q (.int (k12 (KC p s))) σ
noncomputable def k55 (x:V) (P:UInt8→Prop):Prop:=kT (qC x) fun p=>kT (one p) P
noncomputable def K0t (s:List UInt8) (c:UInt8) (σ:Sto) (Q:QV):Prop:=s.length≤kt∧match KC [c] s with
 | some k=>Q (.tup [.bytes (s.take k),.bytes [c],.bytes (s.drop (k+1))]) σ
 | none=>Q (.tup [.bytes s,.bytes [],.bytes []]) σ
noncomputable def K16 (a:Addr) (ys:List V) (σ:Sto) (Q:QV):Prop:=kT ys.getLast? fun v=>ys.length≤kt∧Q v (σ.upd a (.list ys.dropLast))
noncomputable def k5f (a:Addr) (kvs:List (V×V)) (k:Key) (v:V) (σ:Sto) (Q:QV):Prop:=kvs.length≤1000∧match kE kvs k with
 | some x=>Q x σ
 | none=>Q v (σ.upd a (.dict (Kr kvs k v)))
noncomputable def K1e (a:Addr) (kvs:List (V×V)) (k:Key) (σ:Sto) (Q:QV) (no:Prop):Prop:=kvs.length≤1000∧match kE kvs k with
 | some x=>Q x (σ.upd a (.dict (jS kvs k)))
 | none=>no
noncomputable def jI (m:MN) (o:V) (xs:List V) (σ:Sto) (Q:QV):Prop:=match m with
 | .sjoin=>kT (qk o) fun sep=>k7o sep xs σ Q
 | .bjoin=>kT (qC o) fun sep=>k7t sep xs σ Q
 | .sfind=>kT (qk o) fun s=>kT (one xs) fun x=>kT (qk x) fun p=>kT (one p) fun c=>s.length≤kt∧Q (.int (k12 (KC [c] s))) σ
 | .bfind=>kT (qC o) fun s=>kT (one xs) fun x=>kT (qC x) fun p=>K1K s p σ Q
 | .brfind=>kT (qC o) fun s=>kT (one xs) fun x=>k55 x fun c=>s.length≤kt∧Q (.int (k12 (jz c s))) σ
 | .ssplit=>kT (qk o) fun s=>k7P s xs σ Q
 | .bsplit=>kT (qC o) fun s=>kT (one xs) fun x=>k55 x fun c=>s.length≤1000000∧k9B ((kz c s).map .bytes) σ Q
 | .bpart=>kT (qC o) fun s=>kT (one xs) fun x=>k55 x fun c=>K0t s c σ Q
 | .lappend=>K01 o σ fun a ys=>kT (one xs) fun v=>ys.length<kt∧Q .none (σ.upd a (.list (ys++[v])))
 | .lpop=>K01 o σ fun a ys=>xs=[]∧K16 a ys σ Q
 | .dget=>K1d o σ fun z9 kvs=>k4R xs fun k v=>kT k.key? fun k=>Q ((kE kvs k).getD v) σ
 | .dsetdef=>K1d o σ fun a kvs=>k4R xs fun k v=>kT k.key? fun k=>k5f a kvs k v σ Q
 | .dpop=>K1d o σ fun a kvs=>match one xs with
  | some k=>kT k.key? fun k=>K1e a kvs k σ Q False
  | none=>k4R xs fun k v=>kT k.key? fun k=>K1e a kvs k σ Q (Q v σ)
structure Src where
 items:List V
 guard:Option Addr
noncomputable def ZR (v:V) (σ:Sto):Option Src:=match v with
 | .tup xs=>some ⟨xs,none⟩
 | .str s=>some ⟨s.map fun c=>.str [c],none⟩
 | .bytes b=>some ⟨b.map fun c=>.int (c.toNat:Nat),none⟩
 | .ref a=>(match asL (σ.get a) with
  | some xs=>if xs.length≤kt then some ⟨xs,some a⟩ else none
  | none=>(asD (σ.get a)).bind fun kvs=>if kvs.length≤kt then some ⟨kvs.map (·.1),some a⟩ else none)
 | _=>none
noncomputable def Kf (a b c:Int):List V:=(List.range (if a<b then ((b-a-1)/c+1).toNat else 0)).map fun i=>.int (a+(i:Nat)*c)
noncomputable def K0b:List Int→Option (List V)
 | []=>none
 | a::r=>match r with
  | []=>if -1000≤a∧a≤1000000 then some (Kf 0 a 1) else none
  | b::r=>match r with
   | []=>if -1000≤a∧a≤1000000 ∧ -1000≤b∧b≤1000000 then some (Kf a b 1) else none
   | c::r=>if r.isEmpty=true ∧ -1000≤a∧a≤1000000 ∧ -1000≤b∧b≤1000000∧0<c∧c≤1000 then some (Kf a b c) else none
noncomputable def ZQ (xs:List V):Option (List V):=(WP xs).bind K0b
noncomputable def Unt (a:Addr) (σ₀ σ:Sto):Prop:=∃ pre,σ=pre++σ₀∧a∉pre.map (·.1)
noncomputable def jF (g:Option Addr) (σ₀ σ:Sto):Prop:=match g with
 | none=>True
 | some a=>Unt a σ₀ σ
structure IFn where
 params:Nat
 dflts:List V
 nvars:Nat
 body:List IS
noncomputable def IFn.bind (f:IFn) (xs:List V):Option Loc :=
 if xs.length≤f.params∧f.params≤xs.length+f.dflts.length then
  some ((xs++f.dflts.drop (f.dflts.length+xs.length-f.params)).map some++List.replicate (f.nvars-f.params) none)
 else none
section
variable (call:jH) (init:Addr→Option Addr)
noncomputable def Kv (g:Option Addr) (σ₀:Sto) (turn:V→Sto→(Option V→Sto→Prop)→Prop):List V→List V→Sto→QV→Prop
 | [],acc,σ,Q=>jF g σ₀ σ∧k9B acc σ Q
 | x::r,acc,σ,Q=>jF g σ₀ σ∧turn x σ fun o σ'=>match o with
  | some v=>acc.length<kt∧Kv g σ₀ turn r (acc++[v]) σ' Q
  | none=>Kv g σ₀ turn r acc σ' Q
noncomputable abbrev QM:=QV ⊕ (Bool→Sto→Prop)
noncomputable def QM.v:QM→QV
 | .inl Q=>Q
 | .inr Q=>fun x σ=>ZT x σ fun b=>Q b σ
noncomputable def QM.b:QM→Bool→Sto→Prop
 | .inl Q=>fun b σ=>Q (.bool b) σ
 | .inr Q=>Q
mutual
noncomputable def evM:IE→Loc→Sto→QM→QX→Prop
 | .cnone,_,σ,Q,_=>Q.v .none σ
 | .cbool b,_,σ,Q,_=>Q.v (.bool b) σ
 | .cint i,_,σ,Q,_=>Q.v (.int i) σ
 | .cstr s,_,σ,Q,_=>Q.v (.str s) σ
 | .cbytes b,_,σ,Q,_=>Q.v (.bytes b) σ
 | .loc i,ρ,σ,Q,_=>match ρ[i]? with | some (some v)=>Q.v v σ | _=>False
 | .glob v,_,σ,Q,_=>Q.v v σ
 | .bin op l r,ρ,σ,Q,X=>evM l ρ σ (.inl fun x σ=>evM r ρ σ (.inl fun y σ=>k0s op x y σ Q.v) X) X
 | .not e,ρ,σ,Q,X=>match Q with
  | .inl Q=>evM e ρ σ (.inl fun x σ=>ZT x σ fun b=>Q (.bool !b) σ) X
  | .inr Q=>evM e ρ σ (.inr fun b σ=>Q (!b) σ) X
 | .neg e,ρ,σ,Q,X=>evM e ρ σ (.inl fun x σ=>match x with | .int i=>Q.v (.int (-i)) σ | _=>False) X
 | .and l r,ρ,σ,Q,X=>match Q with
  | .inl Q=>evM l ρ σ (.inl fun x σ=>ZT x σ fun b=>if b then evM r ρ σ (.inl Q) X else Q x σ) X
  | .inr Q=>evM l ρ σ (.inr fun b σ=>if b then evM r ρ σ (.inr Q) X else Q false σ) X
 | .or l r,ρ,σ,Q,X=>match Q with
  | .inl Q=>evM l ρ σ (.inl fun x σ=>ZT x σ fun b=>if b then Q x σ else evM r ρ σ (.inl Q) X) X
  | .inr Q=>evM l ρ σ (.inr fun b σ=>if b then Q true σ else evM r ρ σ (.inr Q) X) X
 | .cmp op l r,ρ,σ,Q,X=>evM l ρ σ (.inl fun x σ=>evM r ρ σ (.inl fun y σ=>k59 op x y σ fun b=>Q.b b σ) X) X
 | .cmp2 o1 o2 l m r,ρ,σ,Q,X=>evM l ρ σ (.inl fun x σ=>evM m ρ σ (.inl fun y σ=>k59 o1 x y σ fun b=>if b then evM r ρ σ (.inl fun z σ=>k59 o2 y z σ fun c=>Q.b c σ) X else Q.b false σ) X) X
 | .ife c t e,ρ,σ,Q,X=>evM c ρ σ (.inr fun b σ=>if b then evM t ρ σ (.inl Q.v) X else evM e ρ σ (.inl Q.v) X) X
 | .attr C n o,ρ,σ,Q,X=>evM o ρ σ (.inl fun x σ=>wA C n x σ Q.v) X
 | .sub o i,ρ,σ,Q,X=>evM o ρ σ (.inl fun x σ=>evM i ρ σ (.inl fun y σ=>YH x y σ Q.v) X) X
 | .slice o lo hi,ρ,σ,Q,X=>evM o ρ σ (.inl fun x σ=>evO lo ρ σ (fun a σ=>evO hi ρ σ (fun b σ=>wd x a b σ Q.v) X) X) X
 | .rev o,ρ,σ,Q,X=>evM o ρ σ (.inl fun x σ=>k9e x σ Q.v) X
 | .callF f as,ρ,σ,Q,X=>evs as ρ σ (fun xs σ=>call f xs σ Q.v X) X
 | .callL i as,ρ,σ,Q,X=>match ρ[i]? with
  | some (some .lam)=>evs as ρ σ (fun xs σ=>call qU xs σ Q.v X) X
  | _=>False
 | .new C as,ρ,σ,Q,X=>evs as ρ σ (fun xs σ=>match init C with
  | some f=>∀ a d,¬ σ.has a→¬ σ.has d→a≠d→call f (.ref a::xs) ((σ.upd d (.dict [])).upd a (.inst C d)) (fun r σ=>r=.none∧Q.v (.ref a) σ) X
  | none=>False) X
 | .bi f as,ρ,σ,Q,X=>evs as ρ σ (fun xs σ=>k9v f xs σ Q.v) X
 | .meth m o as,ρ,σ,Q,X=>evM o ρ σ (.inl fun x σ=>k2g (uj m x σ) (evs as ρ σ (fun xs σ=>jI m x xs σ Q.v) X)) X
 | .imeth C f n o as,ρ,σ,Q,X=>evM o ρ σ (.inl fun x σ=>(∃ a d kvs,x=.ref a∧σ.get a=some (.inst C d)∧σ.get d=some (.dict kvs)∧kE kvs (.str n)=none)∧evs as ρ σ (fun xs σ=>call f (x::xs) σ Q.v X) X) X
 | .list es,ρ,σ,Q,X=>evs es ρ σ (fun xs σ=>k9B xs σ Q.v) X
 | .tup es,ρ,σ,Q,X=>evs es ρ σ (fun xs σ=>Q.v (.tup xs) σ) X
 | .dict kvs,ρ,σ,Q,X=>K1v kvs ρ σ (fun ps σ=>∀ r,¬ σ.has r→Q.v (.ref r) (σ.upd r (.dict ps))) X
 | .comp caps it cond elt,ρ,σ,Q,X=>evI it ρ σ (fun src σ =>
   Kv src.guard σ (fun x σ K=>evC cond (some x::caps.map fun i=>(ρ[i]?).join) σ
    (fun b σ=>if b then evM elt (some x::caps.map fun i=>(ρ[i]?).join) σ (.inl fun v σ=>K (some v) σ) (fun z9 z9=>False) else K none σ)) src.items [] σ Q.v) X
 | .lam P p q,_,σ,Q,_=>match σ.get P with | some (.tab p' q')=>p'=p∧q'=q∧Q.v .lam (σ.upd P (.tab p q)) | _=>False
noncomputable def evs:List IE→Loc→Sto→(List V→Sto→Prop)→QX→Prop
 | [],_,σ,Q,_=>Q [] σ
 | e::r,ρ,σ,Q,X=>evM e ρ σ (.inl fun x σ=>evs r ρ σ (fun xs σ=>Q (x::xs) σ) X) X
noncomputable def K1v:List (List Nat×IE)→Loc→Sto→(List (V×V)→Sto→Prop)→QX→Prop
 | [],_,σ,Q,_=>Q [] σ
 | (k,e)::r,ρ,σ,Q,X=>evM e ρ σ (.inl fun x σ=>K1v r ρ σ (fun xs σ=>Q ((.str k,x)::xs) σ) X) X
noncomputable def evO:Option IE→Loc→Sto→(Option Int→Sto→Prop)→QX→Prop
 | none,_,σ,Q,_=>Q none σ
 | some e,ρ,σ,Q,X=>evM e ρ σ (.inl fun x σ=>match x with | .int i=>k2g (wM i) (Q (some i) σ) | _=>False) X
noncomputable def evC:Option IE→Loc→Sto→(Bool→Sto→Prop)→Prop
 | none,_,σ,Q=>Q true σ
 | some e,ρ,σ,Q=>evM e ρ σ (.inr Q) (fun z9 z9=>False)
noncomputable def evI:IT→Loc→Sto→(Src→Sto→Prop)→QX→Prop
 | .e x,ρ,σ,Q,X=>evM x ρ σ (.inl fun v σ=>kT (ZR v σ) fun c=>Q c σ) X
 | .range as,ρ,σ,Q,X=>evs as ρ σ (fun xs σ=>kT (ZQ xs) fun is=>Q ⟨is,none⟩ σ) X
end
noncomputable abbrev ev (e:IE) (ρ:Loc) (σ:Sto) (Q:QV) (X:QX):Prop:=evM call init e ρ σ (.inl Q) X
noncomputable abbrev evB (e:IE) (ρ:Loc) (σ:Sto) (Q:Bool→Sto→Prop) (X:QX):Prop:=evM call init e ρ σ (.inr Q) X
noncomputable abbrev QS:=Option V→Loc→Sto→Prop
noncomputable abbrev QXS:=Loc→Addr→Sto→Prop
noncomputable def Loc.put (ρ:Loc) (i:Nat) (v:V):Loc:=ρ.set i (some v)
noncomputable def Loc.puts (ρ:Loc):List Nat→List V→Loc
 | i::is,v::vs=>Loc.puts (ρ.put i v) is vs
 | _,_=>ρ
noncomputable def KU (g:Option Addr) (σ₀:Sto) (turn:V→Loc→Sto→QS→Prop):List V→Loc→Sto→QS→Prop
 | [],ρ,σ,Q=>jF g σ₀ σ∧Q none ρ σ
 | x::r,ρ,σ,Q=>jF g σ₀ σ∧turn x ρ σ fun o ρ' σ'=>match o with
  | none=>KU g σ₀ turn r ρ' σ' Q
  | some v=>Q (some v) ρ' σ'
noncomputable def k4h (c:Loc→Sto→(Bool→Sto→Prop)→Prop) (body:Loc→Sto→QS→Prop):Nat→Loc→Sto→QS→Prop
 | 0,_,_,_=>False
 | k+1,ρ,σ,Q=>c ρ σ fun b σ=>if b then body ρ σ (fun o ρ σ=>match o with
  | none=>k4h c body k ρ σ Q
  | some v=>Q (some v) ρ σ) else Q none ρ σ
mutual
noncomputable def ex:IS→Loc→Sto→QS→QXS→Prop
 | .expr e,ρ,σ,Q,X=>ev call init e ρ σ (fun z9 σ=>Q none ρ σ) (X ρ)
 | .asg i e,ρ,σ,Q,X=>ev call init e ρ σ (fun v σ=>Q none (ρ.put i v) σ) (X ρ)
 | .asgT is e,ρ,σ,Q,X=>ev call init e ρ σ (fun v σ=>match v with
  | .tup vs=>k2g (Nat.beq vs.length is.length) (Q none (ρ.puts is vs) σ)
  | _=>False) (X ρ)
 | .setA C n o e,ρ,σ,Q,X=>ev call init e ρ σ (fun v σ=>ev call init o ρ σ (fun x σ=>uH C n x v σ fun σ=>Q none ρ σ) (X ρ)) (X ρ)
 | .setI o i e,ρ,σ,Q,X=>ev call init e ρ σ (fun v σ=>ev call init o ρ σ (fun x σ=>ev call init i ρ σ (fun y σ=>k1Z x y v σ fun σ=>Q none ρ σ) (X ρ)) (X ρ)) (X ρ)
 | .augA C n op o e,ρ,σ,Q,X=>ev call init o ρ σ (fun x σ=>wA C n x σ fun old σ=>ev call init e ρ σ (fun v σ=>k0s op old v σ fun r σ=>uH C n x r σ fun σ=>Q none ρ σ) (X ρ)) (X ρ)
 | .augI op o i e,ρ,σ,Q,X=>ev call init o ρ σ (fun x σ=>ev call init i ρ σ (fun y σ=>YH x y σ fun old σ=>ev call init e ρ σ (fun v σ=>k0s op old v σ fun r σ=>k1Z x y r σ fun σ=>Q none ρ σ) (X ρ)) (X ρ)) (X ρ)
 | .ite c t f,ρ,σ,Q,X=>evB call init c ρ σ (fun b σ=>if b then exs t ρ σ Q X else exs f ρ σ Q X) (X ρ)
 | .for1 i it body,ρ,σ,Q,X=>evI call init it ρ σ (fun src σ=>KU src.guard σ (fun x ρ σ K=>exs body (ρ.put i x) σ K (fun z9 z9 z9=>False)) src.items ρ σ Q) (X ρ)
 | .forT is it body,ρ,σ,Q,X=>evI call init it ρ σ (fun src σ=>KU src.guard σ (fun x ρ σ K=>match x with
  | .tup vs=>k2g (Nat.beq vs.length is.length) (exs body (ρ.puts is vs) σ K (fun z9 z9 z9=>False))
  | _=>False) src.items ρ σ Q) (X ρ)
 | .while c body,ρ,σ,Q,_=>∃ k,k4h (fun ρ σ K=>evB call init c ρ σ K (fun z9 z9=>False)) (fun ρ σ K=>exs body ρ σ K (fun z9 z9 z9=>False)) k ρ σ Q
 | .ret e,ρ,σ,Q,X=>ev call init e ρ σ (fun v σ=>Q (some v) ρ σ) (X ρ)
 | .raise C as,ρ,σ,_,X=>evs call init as ρ σ (fun xs σ=>∀ a d,¬ σ.has a→¬ σ.has d→a≠d→X ρ a ((σ.upd d (.dict [(.str Wq,xs.headD (.str []))])).upd a (.inst C d))) (X ρ)
 | .tryE body C as h,ρ,σ,Q,X=>exs body ρ σ Q fun ρ e σ=>(∃ d,σ.get e=some (.inst C d))∧match as with
  | none=>exs h ρ σ Q (fun z9 z9 z9=>False)
  | some i=>exs h (ρ.put i (.ref e)) σ (fun o ρ σ=>Q o (ρ.set i none) σ) (fun z9 z9 z9=>False)
 | .pass,ρ,σ,Q,_=>Q none ρ σ
noncomputable def exs:List IS→Loc→Sto→QS→QXS→Prop
 | [],ρ,σ,Q,_=>Q none ρ σ
 | s::r,ρ,σ,Q,X=>ex s ρ σ (fun o ρ σ=>match o with
  | none=>exs r ρ σ Q X
  | some v=>Q (some v) ρ σ) X
end
end
noncomputable def QW (FT:Addr→Option IFn) (init:Addr→Option Addr):Nat→jH
 | 0=>fun z9 z9 z9 z9 z9=>False
 | n+1=>fun f xs σ Q X=>match FT f with
  | some fn=>match fn.bind xs with
   | some ρ=>exs (QW FT init n) init fn.body ρ σ (fun o z9 σ=>Q (o.getD .none) σ) (fun z9 e σ=>X e σ)
   | none=>False
  | none=>False
end
end
section
set_option genCtorIdx false
set_option genInjectivity false
open PySem PySem.Calls PyProof.Rows PySem.W
structure k7l (env:Env) (vars:List Str) (ρ:Loc) (σ:Sto) (h:Heap):Prop where
 kind:env.scope.kind=.function
 glob:env.globals=mainGlobals
 blt:env.builtins=builtinsNs
 locs:∃ m,h.Ns env.locals m∧∀ (i:Nat) (x:Str) (av:V),vars[i]?=some x→env.kindOf x=some .local→ρ[i]?=some (some av)→∃ v,m x=some v∧VR h av v
 cells:∀ (i:Nat) (x:Str) (av:V),vars[i]?=some x→env.kindOf x=some .cell→ρ[i]?=some (some av)→∃ c v,env.cells.lookup x=some c∧h.IsCell c (some v)∧VR h av v
 kinds:∀ x∈vars,env.kindOf x=some .local∨env.kindOf x=some .cell
 all:∀ x,env.kindOf x=some .cell→∃ c,env.cells.lookup x=some c
 offL:¬ σ.has env.locals
 offC:∀ x c,env.cells.lookup x=some c→¬ σ.has c∧∃ o v,h.get? c=some o∧o.data=.cell v
noncomputable def Fly (h0:Heap) (σ:Sto) (e:Addr) (h:Heap):Prop :=
 ∃ C d vs sl,h0.get? e=none∧σ.get e=some (.inst C d)∧h.get? e=some ⟨.ref C,some d,.fields vs,sl⟩ ∧
  (vs[1]?=some .none∨∃ T oT ts,vs[1]?=some (.ref T)∧h0.get? T=none∧T≠e∧¬ σ.has T∧h.get? T=some oT∧oT.cls=.type "traceback" ∧ oT.data=.fields ts∧ts[3]?=some .none)
section
variable {prog:Program} {w:World} {b0:Heap} {os0:OsState} {l:List Env} {σ σ' σ₁ σ₂:Sto} {s s' s₁ s₂:Shared} {h h':Heap} {A:Around} {E:Value→Shared→Prop}
 {env:Env} {vars:List Str} {ρ:Loc}
theorem k1o {a:Addr} {m:Str→Option Value} (n:h.Ns a m) (k:∀ o,h.get? a=some o→∃ sl,h'.get? a=some { o with slots:=sl }):h'.Ns a m:=by
 refine x32 n ?_;clear n;intro o es ep ho hd r
 obtain ⟨sl,z⟩:=k o ho
 exact ⟨_,es,ep,z,hd,r⟩
theorem Zl {a:Addr} {v:Option Value} (n:h.IsCell a v) (k:∀ o,h.get? a=some o→∃ sl,h'.get? a=some { o with slots:=sl }):h'.IsCell a v:=by
 refine x11 n ?_;clear n;intro o ho hd
 obtain ⟨sl,z⟩:=k o ho
 exact ⟨_,z,hd⟩
theorem k7l.step (V:k7l env vars ρ σ s.heap) (I:Inv prog w b0 os0 l σ s) (S:kQ prog w b0 os0 l σ s σ' s'):k7l env vars ρ σ' s'.heap where
 kind:=V.kind
 glob:=V.glob
 blt:=V.blt
 locs:=by
  refine x11 V.locs fun m n k=>?_
  refine ⟨m,k1o n fun o e=>(S.ext _ o e V.offL).2,fun i x av a b c=>?_⟩
  refine x11 (k i x av a b c) fun v p q=>?_
  exact ⟨v,p,S.vr I q⟩
 cells i x av a b c:=by
  refine x22 (V.cells i x av a b c) fun z v p q r=>?_
  exact ⟨z,v,p,Zl q fun o e=>(S.ext _ o e (V.offC x z p).1).2,S.vr I r⟩
 kinds:=V.kinds
 all:=V.all
 offL:=by
  refine x11 V.locs fun m zn1 z9=>?_;obtain ⟨o,es,ep,ho,_⟩:=zn1
  exact S.dom.not ho V.offL
 offC x c e:=by
  obtain ⟨n,zz0⟩:=V.offC x c e;refine x21 zz0 fun o v ho hd=>?_
  obtain ⟨_,sl,z⟩:=S.ext c o ho n
  exact ⟨S.dom.not ho n,_,v,z,hd⟩
theorem qT.there {a:Addr} {c:yO} (e:qT prog w h a c):∃ o,h.get? a=some o:=by
 cases c with
 | list xs=>refine x21 e ?_;clear e;intro z9 z9 e z9;exact ⟨_,e⟩
 | dict kvs=>refine x11 e ?_;clear e;intro ps zn1 z9;obtain ⟨o,es,ep,ho,_⟩:=zn1;exact ⟨_,ho⟩
 | inst C d=>refine x21 e ?_;clear e;intro z9 z9 e z9;exact ⟨_,e⟩
 | tab p q=>refine x11 e ?_;clear e;intro z9 e z9;exact ⟨_,e⟩
theorem Inv.has_there (I:Inv prog w b0 os0 l σ s) {a:Addr} (e:σ.has a):∃ o,s.heap.get? a=some o:=by
 cases z:σ.get a with
 | none=>exact (e z).elim
 | some c=>exact (I.own a c z).there
theorem kQ.back (S:kQ prog w b0 os0 l σ s σ' s') {a:Addr} (e:s'.heap.get? a=none):s.heap.get? a=none:=by
 cases q:s.heap.get? a with
 | none=>rfl
 | some o =>
  by_cases z:σ.has a
  ·obtain ⟨o',z⟩:=S.inv.has_there (S.dom.1 a z);rw[e] at z;injection z
  ·obtain ⟨_,sl,z⟩:=S.ext a o q z;rw[e] at z;injection z
theorem Fly.back {h0 h1:Heap} {e:Addr} (x:Fly h1 σ e h) (k:∀ {a},h1.get? a=none→h0.get? a=none):Fly h0 σ e h:=by
 refine x43 x ?_;clear x;intro C d vs sl x0 x1 x2 x3
 refine ⟨C,d,vs,sl,k x0,x1,x2,?_⟩
 rcases x3 with x3 | ⟨T,oT,ts,y1,y2,y3⟩
 ·exact .inl x3
 ·exact .inr ⟨T,oT,ts,y1,k y2,y3⟩
variable (prog w b0 os0 l) in
def PV (σ:Sto) (s:Shared) (Q:QV):Value→Shared→Prop:=fun v s'=>∃ x σ',kQ prog w b0 os0 l σ s σ' s'∧VR s'.heap x v∧Q x σ'
variable (prog w b0 os0 l) in
def PX (σ:Sto) (s:Shared) (X:QX):Value→Shared→Prop:=fun v s'=>∃ e σ',v=.ref e∧kQ prog w b0 os0 l σ s σ' s'∧Fly s.heap σ' e s'.heap∧X e σ'
theorem PV.back {Q:QV} {v:Value} {s'':Shared} (S:kQ prog w b0 os0 l σ s σ' s') (p:PV prog w b0 os0 l σ' s' Q v s''):PV prog w b0 os0 l σ s Q v s'':=by
 refine x22 p ?_;clear p;intro x σ₂ a b c
 exact ⟨x,σ₂,S.trans a,b,c⟩
theorem PX.back {X:QX} {v:Value} {s'':Shared} (S:kQ prog w b0 os0 l σ s σ' s') (p:PX prog w b0 os0 l σ' s' X v s''):PX prog w b0 os0 l σ s X v s'':=by
 refine x23 p ?_;clear p;intro x σ₂ a b c d
 exact ⟨x,σ₂,a,S.trans b,c.back fun z=>S.back z,d⟩
theorem PV.now {Q:QV} {x:V} {v:Value} (S:kQ prog w b0 os0 l σ s σ' s') (r:VR s'.heap x v) (q:Q x σ'):PV prog w b0 os0 l σ s Q v s':=⟨x,σ',S,r,q⟩
theorem ww {Q:QV} {X:QX} {t:Sem Value} (S:kQ prog w b0 os0 l σ s σ' s') (p:wpAny (model prog w) A t (PV prog w b0 os0 l σ' s' Q) (PX prog w b0 os0 l σ' s' X) s') :
  wpAny (model prog w) A t (PV prog w b0 os0 l σ s Q) (PX prog w b0 os0 l σ s X) s' :=
 wpAny_mono p (fun z9 z9 q=>q.back S) fun z9 z9 q=>q.back S
noncomputable def BOp.op:BOp→Operator
 | .add=>.Add | .sub=>.Sub | .mul=>.Mult | .fdiv=>.FloorDiv | .mod=>.Mod | .shr=>.RShift | .band=>.BitAnd
end
section
variable {prog:Program} {w:World} {b0:Heap} {os0:OsState} {l:List Env} {σ σ' σ₁ σ₂:Sto} {s s' s₁ s₂:Shared} {h h':Heap} {A:Around} {E:Value→Shared→Prop}
 {env:Env} {vars:List Str} {ρ:Loc}
theorem Inv.fresh (I:Inv prog w b0 os0 l σ s) {a:Addr} (e:s.heap.get? a=none):¬ σ.has a:=fun q=>by
 obtain ⟨o,z⟩:=I.has_there q;rw[e] at z;injection z
theorem Kx (h:Heap):h.get? h.objs.size=none:=by
 cases q:h.get? h.objs.size with
 | none=>rfl
 | some o=>exact absurd (Heap.lt_size q) (Nat.lt_irrefl _)
theorem kW (h:Heap) (o:Obj):∀ b x,h.get? b=some x→(h.push o).get? b=some x:=fun z9 z9 e=>Heap.get?_push_of_some _ e
theorem k1V (h:Heap) {o:Obj} (f:o.isFreed=false:=by rfl):(h.push o).get? h.objs.size=some o:=Heap.get?_push_size _ f
theorem jM (k:∀ b x,h.get? b=some x→h'.get? b=some x):KW h h':=fun z9 z9 z9 e=>k _ _ e
theorem PV.newList (I:Inv prog w b0 os0 l σ s) {xs:List V} {vs:List Value} {n:Nat} {k:Tok} {Q:QV} (r:VRs s.heap xs vs) (q:k9B xs σ Q) :
  PV prog w b0 os0 l σ s Q (.ref s.heap.objs.size) { s with heap:=s.heap.push (KH vs n),toks:=k } :=
 PV.now (kQ.new I (Kx _) (kW _ _) (c:=.list xs) ⟨vs,n,k1V _,r.keep (jM (kW _ _))⟩) (by first | exact rfl | exact ⟨_,rfl⟩) (q _ (I.fresh (Kx _)))
theorem PV.same (I:Inv prog w b0 os0 l σ s) {x:V} {v:Value} {k:Tok} {Q:QV} (r:VR s.heap x v) (q:Q x σ):PV prog w b0 os0 l σ s Q v { s with toks:=k } :=
 PV.now (kQ.same I) r q
theorem PV.same' (I:Inv prog w b0 os0 l σ s) {x:V} {v:Value} {Q:QV} (r:VR s.heap x v) (q:Q x σ):PV prog w b0 os0 l σ s Q v s :=
 PV.now (kQ.refl I) r q
theorem PV.newTup (I:Inv prog w b0 os0 l σ s) {xs:List V} {vs:List Value} {n:Nat} {k:Tok} {Q:QV} (r:VRs s.heap xs vs) (q:Q (.tup xs) σ) :
  PV prog w b0 os0 l σ s Q (.ref s.heap.objs.size) { s with heap:=s.heap.push (Je vs n),toks:=k } :=
 PV.now (x:=.tup xs) (kQ.grow I (kW _ _)) ⟨_,n,vs,rfl,k1V _,r.keep (jM (kW _ _))⟩ q
theorem qz (I:Inv prog w b0 os0 l σ s) {a:Addr} {xs:List V} (e:σ.get a=some (.list xs)):∃ vs n,s.heap.get? a=some (KH vs n)∧VRs s.heap xs vs:=I.own a _ e
theorem kF {a:Addr} {vs:List Value} {n:Nat} (e:h.get? a=some (KH vs n)):h.IsList a vs.toArray:=⟨_,e,rfl,n,rfl⟩
theorem K0j {y:V} {v:Value} {b:Unit} (r:VR h y v) (e:uB y=some b):v=.none:=by rw[uz e] at r;exact r
theorem K1A {y:V} {v:Value} {b:Bool} (r:VR h y v) (e:uD y=some b):v=.bool b:=by rw[UH e] at r;exact r
theorem k0N {y:V} {v:Value} {b:Int} (r:VR h y v) (e:qF y=some b):∃ t,v=.int b t:=by rw[k2i e] at r;exact r
theorem k3e {y:V} {v:Value} {b:List Nat} (r:VR h y v) (e:qk y=some b):∃ t,v=.str (ke b) t:=by rw[k1i e] at r;exact r
theorem k3q {y:V} {v:Value} {b:List UInt8} (r:VR h y v) (e:qC y=some b):∃ t,v=.bytes b.toArray t:=by rw[k2s e] at r;exact r
theorem Zr {y:V} {v:Value} {b:Addr} (r:VR h y v) (e:jq y=some b):v=.ref b:=by rw[k1w e] at r;exact r
theorem k9h {y:V} {v:Value} {b:List V} (r:VR h y v) (e:zK y=some b):∃ a n vs,v=.ref a∧h.get? a=some (Je vs n)∧VRs h b vs:=by rw[k58 e] at r;exact r
theorem rL (I:Inv prog w b0 os0 l σ s) {a:Addr} {P:List V→Prop} {G:Prop} (q:kT (asL (σ.get a)) P) (k:∀ xs vs n,σ.get a=some (.list xs)→s.heap.get? a=some (KH vs n)→VRs s.heap xs vs→P xs→G):G :=
 inL q fun xs e q=>x21 (qz I e) fun vs n g r=>k xs vs n e g r q
theorem vrR {a:Addr}:VR h (.ref a) (.ref a):=rfl
theorem vrO {b:Bool}:VR h (.bool b) (.bool b):=rfl
theorem vrN:VR h .none .none:=rfl
theorem vrI {i:Int} {t:Tok}:VR h (.int i) (.int i t):=⟨t,rfl⟩
theorem vrS {i:List Nat} {t:Tok}:VR h (.str i) (.str (ke i) t):=⟨t,rfl⟩
theorem vrB {i:List UInt8} {t:Tok}:VR h (.bytes i) (.bytes i.toArray t):=⟨t,rfl⟩
theorem vrSS {a b:List Nat} {t:Tok}:VR h (.str (a++b)) (.str (ke a++ke b) t):=⟨t,congrArg (fun x=>Value.str ⟨x⟩ t) (List.append_toArray _ _)⟩
theorem vrBB {a b:List UInt8} {t:Tok}:VR h (.bytes (a++b)) (.bytes (a.toArray++b.toArray) t):=⟨t,congrArg (fun x=>Value.bytes x t) (List.append_toArray _ _)⟩
theorem k0Q (I:Inv prog w b0 os0 l σ s) {op:BOp} {a b:Int} {t t':Tok} {Q:QV} (q:K0Q op a b fun c=>Q (.int c) σ):wpAny (model prog w) A (binaryOp op.op (.int a t) (.int b t')) (PV prog w b0 os0 l σ s Q) E s:=by
 cases op with
 | add=>exact PyProof.Rows.add_int (PV.same I vrI q)
 | sub=>exact PySem.P.sub_int (PV.same I vrI q)
 | mul=>exact PySem.P.mul_int (PV.same I vrI q.2) q.1
 | fdiv=>exact floordiv_int q.1 (PV.same I vrI q.2.2) (.inl q.2.1)
 | mod=>exact mod_int q.1 (PV.same I vrI q.2)
 | shr=>exact rshift_int q.1 (PV.same I vrI q.2)
 | band=>exact and_int (PV.same I vrI q)
theorem k48 {xs:List V} {vs:List Value} (r:VRs h xs vs) (e:vs=[]):xs=[]:=List.eq_nil_of_length_eq_zero (r.length.symm.trans (congrArg List.length e))
theorem k3j (I:Inv prog w b0 os0 l σ s) {a b:Addr} {n m:Nat} {xs ys:List V} {vs ws:List Value} {Q:QV} (h1:s.heap.get? a=some (Je vs n)) (r1:VRs s.heap xs vs) (h2:s.heap.get? b=some (Je ws m)) (r2:VRs s.heap ys ws) (hz:xs.length+ys.length≤kt) (q:Q (.tup (xs++ys)) σ) :
  wpAny (model prog w) A (binaryOp .Add (.ref a) (.ref b)) (PV prog w b0 os0 l σ s Q) E s:=by
 by_cases hv:vs=[]
 ·rw[k48 r1 hv] at q
  exact concat_meets ⟨_,h1,rfl⟩ ⟨_,h2,rfl⟩ noFill_tuple_add seq_tuple_add PySem.F.slot_tuple_add PySem.F.entry_tuple_add (PySem.F.args_tuple_add_2 _ _)
   (tuple_addW0 a b vs.toArray ws.toArray n m none none #[] #[] (by refine er hv ?_;rfl)) ⟨h1,h2,PV.same I (x:=.tup ys) ⟨b,m,ws,rfl,h2,r2⟩ q⟩
 ·by_cases hw:ws=[]
  ·rw[k48 r2 hw,List.append_nil] at q
   exact concat_meets ⟨_,h1,rfl⟩ ⟨_,h2,rfl⟩ noFill_tuple_add seq_tuple_add PySem.F.slot_tuple_add PySem.F.entry_tuple_add (PySem.F.args_tuple_add_2 _ _)
    (tuple_addW1 a b vs.toArray ws.toArray n m none none #[] #[] (by simpa using hv) (by refine er hw ?_;rfl)) ⟨h1,h2,PV.same I (x:=.tup xs) ⟨a,n,vs,rfl,h1,r1⟩ q⟩
  ·refine concat_meets ⟨_,h1,rfl⟩ ⟨_,h2,rfl⟩ noFill_tuple_add seq_tuple_add PySem.F.slot_tuple_add PySem.F.entry_tuple_add (PySem.F.args_tuple_add_2 _ _)
    (tuple_addW2 a b vs.toArray ws.toArray n m none none #[] #[] (by simpa using hv) (by simpa using hw) (by refine er List.size_toArray ?_;refine er List.size_toArray ?_;refine er r1.length ?_;refine er r2.length ?_;refine er sizeLine_eq ?_;exact hz)) ⟨h1,h2,?_⟩
   refine er (List.append_toArray _ _) ?_
   exact PV.newTup I (r1.append r2) q
theorem k00 (I:Inv prog w b0 os0 l σ s) {op:BOp} {x y:V} {u v:Value} {Q:QV} (rx:VR s.heap x u) (ry:VR s.heap y v) (q:k0s op x y σ Q) :
  wpAny (model prog w) A (binaryOp op.op u v) (PV prog w b0 os0 l σ s Q) E s:=by
 cases x with
 | int a =>
  refine su q fun b e q=>?_
  obtain ⟨t,rfl⟩:=rx;obtain ⟨t',rfl⟩:=k0N ry e
  exact k0Q I q
 | str a =>
  refine su q fun b e q=>?_
  obtain ⟨t,rfl⟩:=rx;obtain ⟨t',rfl⟩:=k3e ry e
  obtain ⟨rfl,hz,q⟩:=Wl q
  exact PyProof.Rows.add_str (fun t' k=>PV.same I vrSS q) (by refine er sizeLine_eq ?_;exact hz)
 | bytes a =>
  refine su q fun b e q=>?_
  obtain ⟨t,rfl⟩:=rx;obtain ⟨t',rfl⟩:=k3q ry e
  obtain ⟨rfl,hz,q⟩:=Wl q
  exact KBy.add_bytes (by simpa using hz) fun t' k=>PV.same I vrBB q
 | ref a =>
  refine su q fun b e q=>?_
  obtain rfl:=rx;obtain rfl:=Zr ry e
  refine rL I q fun xs vs n z9 h1 r1 q=>rL I q fun ys ws m z9 h2 r2 q=>?_
  obtain ⟨rfl,hz,q⟩:=Wl q
  refine concat_meets ⟨_,h1,rfl⟩ ⟨_,h2,rfl⟩ noFill_list_add seq_list_add PySem.F.slot_list_add PySem.F.entry_list_add (PySem.F.args_list_add_2 _ _)
   (list_addW a b vs.toArray ws.toArray n m none none #[] #[] (by refine er List.size_toArray ?_;refine er List.size_toArray ?_;refine er r1.length ?_;refine er r2.length ?_;refine er sizeLine_eq ?_;exact hz)) ⟨h1,h2,?_⟩
  refine er (List.append_toArray _ _) ?_
  exact PV.newList I (r1.append r2) q
 | tup xs =>
  refine su q fun ys e q=>?_
  refine x32 rx fun a n vs e1 h1 r1=>x32 (k9h ry e) fun b m ws e2 h2 r2=>?_
  refine er e1 ?_;refine er e2 ?_
  obtain ⟨rfl,hz,q⟩:=Wl q
  exact k3j I h1 r1 h2 r2 hz q
 | _=>exact q.elim
end
end
section
set_option genCtorIdx false
set_option genInjectivity false
open PySem PySem.Calls PyProof.Rows PySem.W PySem.SeqAt
theorem ZN {x y:V} {b:Bool} (e:QZ x y=some b) {G:Prop} (k0:x=.none→y=.none→true=b→G) (k1:∀ p q,x=.bool p→y=.bool q→(p==q)=b→G) (k2:∀ p q,x=.int p→y=.int q→(p==q)=b→G)
  (k3:∀ p q,x=.str p→y=.str q→(p==q)=b→G) (k4:∀ p q,x=.bytes p→y=.bytes q→(p==q)=b→G):G:=by
 cases x with
 | none=>exact ob e fun z9 h e=>k0 rfl (uz h) (Option.some.inj e)
 | bool p=>exact ob e fun q h e=>k1 p q rfl (UH h) (Option.some.inj e)
 | int p=>exact ob e fun q h e=>k2 p q rfl (k2i h) (Option.some.inj e)
 | str p=>exact ob e fun q h e=>k3 p q rfl (k1i h) (Option.some.inj e)
 | bytes p=>exact ob e fun q h e=>k4 p q rfl (k2s h) (Option.some.inj e)
 | _=>injection e
theorem k6v {α:Type} [BEq α] [LawfulBEq α] {p q:α} {b:Bool} (h:p=q) (e:(p==q)=b):b=true:=by refine er (Eq.symm e) (er h ?_);exact beq_self_eq_true _
theorem zq {h:Heap} {x y:V} {v:Value} {b:Bool} (r:VR h x v) (r':VR h y v) (e:QZ x y=some b):b=true :=
 ZN e (fun z9 z9 e=>e.symm)
  (fun p q hx hy eb=>by subst hx hy;exact k6v (Value.bool.inj (r.symm.trans r')) eb)
  (fun p q hx hy eb=>by subst hx hy;obtain ⟨t,z⟩:=r;obtain ⟨t',z'⟩:=r';exact k6v (Value.int.inj (z.symm.trans z')).1 eb)
  (fun p q hx hy eb=>by subst hx hy;obtain ⟨t,z⟩:=r;obtain ⟨t',z'⟩:=r';exact k6v (p:=p) (q:=q) (congrArg (fun s=>s.cps.toList) (Value.str.inj (z.symm.trans z')).1) eb)
  (fun p q hx hy eb=>by subst hx hy;obtain ⟨t,z⟩:=r;obtain ⟨t',z'⟩:=r';exact k6v (p:=p) (q:=q) (congrArg Array.toList (Value.bytes.inj (z.symm.trans z')).1) eb)
theorem Wz {f:V→V→Option Bool} {x:V} {xs ys:List V} {b:Bool} (e:Qo f (x::xs) ys=some b) {G:Prop} (k:∀ y r c d,ys=y::r→f x y=some c→Qo f xs r=some d→(c&&d)=b→G):G:=by
 cases ys with
 | nil=>injection e
 | cons y r=>exact ob (f:=fun a=>(Qo f xs r).map (a&&·)) e fun c e1 e=>om e fun d e2 e=>k y r c d rfl e1 e2 e
theorem Yl {f:V→V→Option Bool} {ys:List V} {b:Bool} (e:Qo f [] ys=some b):ys=[]∧true=b:=oi e fun h e=>⟨List.isEmpty_iff.1 h,e⟩
theorem VRs.nil_eq {h:Heap} {vs:List Value} (r:VRs h [] vs):vs=[]:=r
theorem VRs.cons_eq {h:Heap} {x:V} {xs:List V} {vs:List Value} (r:VRs h (x::xs) vs):∃ v q,vs=v::q∧VR h x v∧VRs h xs q:=r
theorem WM {h:Heap} {f:V→V→Option Bool} (hf:∀ {x y:V} {v:Value} {b:Bool},VR h x v→VR h y v→f x y=some b→b=true) {xs:List V} :
  ∀ {ys:List V} {vs:List Value} {b:Bool},VRs h xs vs→VRs h ys vs→Qo f xs ys=some b→b=true:=by
 induction xs with
 | nil=>exact fun z9 z9 e=>(Yl e).2.symm
 | cons x xs ih =>
  intro ys vs b r r' e
  refine Wz e fun y q c d ey e1 e2 eb=>?_
  rw[ey] at r'
  refine x22 r.cons_eq fun v q z a1 a2=>x22 r'.cons_eq fun v' q' z' b1 b2=>?_
  obtain ⟨rfl,rfl⟩:=List.cons.inj (z.symm.trans z')
  refine er (Eq.symm eb) (er (hf a1 b1 e1) (er (ih a2 b2 e2) ?_));rfl
theorem KL {h:Heap} {a:Addr} {vs:List Value} {n:Nat} (e:h.get? a=some (Je vs n)):h.IsTuple a vs.toArray:=⟨_,e,rfl,n,rfl⟩
noncomputable def k8k (f:V→V→Option Bool) (xs ys:List V) (j:Nat):Bool:=((xs[j]?.bind fun x=>ys[j]?.bind fun y=>f x y).getD false)
theorem Zt {f:V→V→Option Bool} {xs:List V}:∀ {ys:List V} {b:Bool},Qo f xs ys=some b→(List.range xs.length).all (k8k f xs ys)=b∧xs.length=ys.length:=by
 induction xs with
 | nil=>exact fun e=>⟨(Yl e).2,by exact er ((Yl e).1) rfl⟩
 | cons x xs ih =>
  intro ys b e
  refine Wz e fun y q c d ey e1 e2 eb=>?_
  subst ey
  refine ⟨?_,congrArg (·+1) (ih e2).2⟩
  refine er List.length_cons (er List.range_succ_eq_map (er List.all_cons (er List.all_map ?_)))
  show ((f x y).getD false&&(List.range xs.length).all (k8k f xs q))=b
  refine er ((ih e2).1) (er e1 ?_);exact eb
theorem k6i {f:V→V→Option Bool} {xs:List V}:∀ {ys:List V} {b:Bool} {j:Nat} {x y:V},Qo f xs ys=some b→xs[j]?=some x→ys[j]?=some y→f x y=some (k8k f xs ys j):=by
 induction xs with
 | nil=>exact fun z9 h z9=>by injection h
 | cons a xs ih =>
  intro ys b j x y e h1 h2
  refine Wz e fun y q c d ey e1 e2 eb=>?_
  subst ey
  cases j with
  | zero =>
   obtain rfl:=Option.some.inj h1;obtain rfl:=Option.some.inj h2
   show _=some ((f _ _).getD false)
   refine er e1 ?_;rfl
  | succ j=>exact ih e2 h1 h2
section
variable {A:Around} {s:Shared}
theorem EqAt.bytes_bytes (a:Array UInt8) (t:Tok) (b:Array UInt8) (u:Tok):EqAt A s (.bytes a t) (.bytes b u) (a.toList==b.toList):=fun prog w E Q h =>
 eqBool_bytes (by refine er (show decide (a.toList=b.toList)=(a.toList==b.toList) by rw[Bool.eq_iff_iff];simp) ?_;exact h)
theorem k39 (p q:List Nat):(ke p==ke q)=(p==q):=by rw[Bool.eq_iff_iff];simp
theorem ue {x y:V} {u v:Value} {b:Bool} (r:VR s.heap x u) (r':VR s.heap y v) (e:QZ x y=some b):EqAt A s u v b :=
 ZN e (fun hx hy eb=>by subst hx hy;obtain rfl:=r;obtain rfl:=r';exact eb▸EqAt.same _)
  (fun p q hx hy eb=>by subst hx hy;obtain rfl:=r;obtain rfl:=r';exact eb▸EqAt.bool_bool _ _)
  (fun p q hx hy eb=>by subst hx hy;obtain ⟨t,rfl⟩:=r;obtain ⟨t',rfl⟩:=r';exact eb▸EqAt.int_int _ _ _ _)
  (fun p q hx hy eb=>by subst hx hy;obtain ⟨t,rfl⟩:=r;obtain ⟨t',rfl⟩:=r';exact ((k39 p q).trans eb)▸EqAt.str_str (ke p) t (ke q) t')
  (fun p q hx hy eb=>by subst hx hy;obtain ⟨t,rfl⟩:=r;obtain ⟨t',rfl⟩:=r';exact eb▸EqAt.bytes_bytes p.toArray t q.toArray t')
theorem yK {x y:V} {b:Bool} (e:QL x y=some b) {G:Prop} (k1:QZ x y=some b→G) (k2:∀ xs ys,zK x=some xs→zK y=some ys→xs.length=ys.length→Qo QZ xs ys=some b→G):G:=by
 replace e:(match zK x with | some xs=>(zK y).bind fun ys=>if xs.length=ys.length then Qo QZ xs ys else none | none=>QZ x y)=some b:=e
 cases h:zK x with
 | none=>rw[h] at e;exact k1 e
 | some xs =>
  rw[h] at e
  refine ob e fun ys hy e=>?_
  by_cases l:xs.length=ys.length
  ·rw[if_pos l] at e;exact k2 xs ys h hy l e
  ·rw[if_neg l] at e;injection e
theorem k14 {vs:List Value} {j:Nat} {v:Value} (h:j<vs.toArray.size) (e:vs[j]?=some v):vs.toArray[j]=v:=(List.getElem?_eq_some_iff.1 e).2
theorem k1C {f:V→V→Option Bool} {xs ys:List V} {vs ws:List Value} {b:Bool} (q1:VRs s.heap xs vs) (q2:VRs s.heap ys ws) (e:Qo f xs ys=some b) (k:∀ {x y u v c},VR s.heap x u→VR s.heap y v→f x y=some c→EqAt A s u v c) :
  ∀ j (h1:j<vs.toArray.size) (h2:j<ws.toArray.size),EqAt A s vs.toArray[j] ws.toArray[j] (k8k f xs ys j):=fun j j1 j2=>by
 have l1:j<xs.length:=by refine er (Eq.symm q1.length) ?_;exact j1
 have l2:j<ys.length:=by refine er (Eq.symm q2.length) ?_;exact j2
 refine x11 (q1.get (List.getElem?_eq_getElem l1)) fun v hv rv=>x11 (q2.get (List.getElem?_eq_getElem l2)) fun v' hv' rv'=>?_
 refine er (k14 j1 hv) (er (k14 j2 hv') ?_)
 exact k rv rv' (k6i e (List.getElem?_eq_getElem l1) (List.getElem?_eq_getElem l2))
theorem k2b {f:V→V→Option Bool} {xs ys:List V} {vs ws:List Value} {b:Bool} (q1:VRs s.heap xs vs) (q2:VRs s.heap ys ws) (e:Qo f xs ys=some b):((List.range (min vs.toArray.size ws.toArray.size)).all (k8k f xs ys)&&vs.toArray.size==ws.toArray.size)=b:=by
 have l:ws.length=vs.length:=by refine er q1.length ?_;refine er q2.length ?_;refine er ((Zt e).2) ?_;rfl
 refine er List.size_toArray ?_;refine er List.size_toArray ?_;refine er l ?_;refine er (Nat.min_self _) ?_;refine er (beq_self_eq_true _) ?_;rw[Bool.and_true,q1.length];exact (Zt e).1
theorem k4O {a:Addr} {n m:Nat} {vs ws:List Value} (h1:s.heap.get? a=some (Je vs n)) (h2:s.heap.get? a=some (Je ws m)):vs=ws:=by
 injection h1.symm.trans h2 with z;injection z with _ _ z;injection z with z;exact congrArg Array.toList z
theorem k8e (hu:A.units<cLine) {x y:V} {u v:Value} {b:Bool} (r:VR s.heap x u) (r':VR s.heap y v) (e:QL x y=some b):EqAt A s u v b :=
 yK e (ue r r') fun xs ys e1 e2 l e=>x32 (k9h r e1) fun a n vs z1 h1 q1=>x32 (k9h r' e2) fun c m ws z2 h2 q2=>by
  refine er z1 (er z2 ?_)
  by_cases hac:a=c
  ·subst hac
   refine er (WM zq q1 (k4O h1 h2▸q2) e) ?_
   exact EqAt.same _
  ·have z:=RcAt.tuples (A:=A) (KL h1) (KL h2) hu (k1C q1 q2 e ue)
   rw[k2b q1 q2 e] at z
   exact EqAt.of_refs hac z
theorem k6O (hu:A.units<cLine) {xs ys:List V} {vs ws:List Value} {b:Bool} (q1:VRs s.heap xs vs) (q2:VRs s.heap ys ws) (e:wo xs ys=some b) :
  ∀ j (h1:j<vs.toArray.size) (h2:j<ws.toArray.size),EqAt A s vs.toArray[j] ws.toArray[j] (k8k QL xs ys j):=k1C q1 q2 e (k8e hu)
theorem k10 (hu:A.units+1<cLine) {a c:Addr} {xs ys:List V} {vs ws:List Value} {n m:Nat} {b:Bool} (h1:s.heap.get? a=some (KH vs n)) (h2:s.heap.get? c=some (KH ws m))
  (q1:VRs s.heap xs vs) (q2:VRs s.heap ys ws) (e:(if xs.length=ys.length then wo xs ys else some false)=some b):RcAt A s (.ref a) (.ref c) b∧RcNeAt A s (.ref a) (.ref c) (!b):=by
 split at e
 ·rename_i hl
  have hsz:vs.toArray.size=ws.toArray.size:=by simp[q1.length,q2.length,hl]
  have he:(List.range vs.toArray.size).all (k8k QL xs ys)=b:=by
   simp only[List.size_toArray,q1.length];exact (Zt e).1
  have d:=k6O (A:=A.in1) (s:=s) hu q1 q2 e
  have z1:=RcAt.lists (A:=A) (kF h1) (kF h2) hsz (by lia) d
  have z2:=RcNeAt.lists (A:=A) (kF h1) (kF h2) hsz (by lia) d
  rw[he] at z1 z2
  exact ⟨z1,z2⟩
 ·rename_i hl
  cases Option.some.inj e
  have hsz:(vs.toArray.size != ws.toArray.size)=true:=by simpa [q1.length,q2.length] using hl
  exact ⟨RcAt.lists_lengths (kF h1) (kF h2) hsz (by lia),RcNeAt.lists_lengths (kF h1) (kF h2) hsz (by lia)⟩
end
end
section
set_option genCtorIdx false
set_option genInjectivity false
open PySem PySem.Calls PyProof.Rows PySem.W PySem.SeqAt AutoSeq1
theorem k96 {M:Model} {A:Around} {E:Value→Shared→Prop} {hp:Heap} {g:Array GenState} {d:Drawn} {tk:Tok} {os:OsState} {id:String} {b:Array UInt8} {t:Tok} {Q:Option (Array UInt8)→Shared→Prop} (h:Q (some b) ⟨hp,g,d,tk,os⟩) :
  wpAny M A (Builtin.Bytes.buffer? id (.bytes b t)) Q E ⟨hp,g,d,tk,os⟩:=by refine er KBy.buffer_eq ?_;exact wpAny_pure h
theorem k5W (b:List UInt8) (i:Int) (h0:0≤i) (h1:i<256):b.toArray.contains i.toNat.toUInt8=(b.any fun c=>((c.toNat:Nat):Int)==i):=by
 rw[Bool.eq_iff_iff]
 obtain ⟨k,rfl⟩:=Int.eq_ofNat_of_zero_le h0
 have hk:k%256=k:=Nat.mod_eq_of_lt (Int.ofNat_lt.1 h1)
 have hi:∀ c:UInt8,c=(k:Int).toNat.toUInt8↔((c.toNat:Nat):Int)=(k:Int):=fun c =>
  ⟨fun e=>by subst e;exact congrArg Int.ofNat hk,fun e=>UInt8.toNat_inj.mp ((Int.ofNat.inj e).trans hk.symm)⟩
 simp only[List.contains_toArray,List.contains_iff_mem,List.any_eq_true,beq_iff_eq]
 constructor
 ·intro m;exact ⟨_,m,(hi _).mp rfl⟩
 ·rintro ⟨c,m,e⟩;rw[← (hi c).mpr e];exact m
theorem uy (b:List UInt8) (i:Int) (t u:Tok) (h0:0≤i) (h1:i<256) :
  Meets (Builtin.«bytes.__contains__» ⟨[.bytes b.toArray t,.int i u],[]⟩) (fun z9 R s=>R (.ok (.ret (.bool (b.any fun c=>((c.toNat:Nat):Int)==i)))) s) :=
 .of_wp fun prog w A R s h=>by
  obtain ⟨hp,g,d,tk,os⟩:=s
  wp_walk using k96
  refine er (k5W b i h0 h1) ?_
  exact ⟨_,rfl,h⟩
theorem Zv:isSubtype (.type "dict") (.type "dict")=pure true:=by refine er (isSubtype_type _ _) ?_;kernel_rfl
theorem k0K (a b:Addr) (es:Array DictEntry) (n m:Nat) (ha:(a==sysModules)=false) (hb:(b==sysModules)=false) :
  Meets (Builtin.«dict.__eq__» ⟨[.ref a,.ref b],[]⟩) (fun z9 R s=>s.heap.get? a=some { cls:=.type "dict",data:=.dict es n }∧s.heap.get? b=some { cls:=.type "dict",data:=.dict #[] m }∧R (.ok (.ret (.bool es.isEmpty))) s) :=
 .of_wp fun prog w A R s h=>by
  obtain ⟨hp,g,d,tk,os⟩:=s
  refine x02 h ?_;clear h;intro h1 h2 h
  wp_walk using wpAny_loadPart' h1,wpAny_loadPart' h2
  show wpAny _ _ (isSubtype (.type "dict") (.type "dict")) _ _ _
  refine er Zv ?_
  refine wpAny_pure ?_
  wp_walk using wpAny_loadPart' h1,wpAny_loadPart' h2
  by_cases z:es.size=0
  ·have e0:es=#[]:=Array.eq_empty_of_size_eq_zero z
   subst e0
   refine er (if_neg (by simp)) ?_
   refine wpAny_bind (wpAny_dictEpoch h1 rfl (wpAny_bind ?_))
   refine wpAny_of_eq (a:=(none,())) (by simp[Std.Legacy.Range.forIn_eq_forIn_range',Std.Legacy.Range.size]) ?_
   exact wpAny_pure (wpAny_pure ⟨_,rfl,h⟩)
  ·refine er (if_pos (by simpa using z)) ?_
   have:es.isEmpty=false:=by simpa [Array.isEmpty] using z
   rw[this] at h
   exact wpAny_bind (wpAny_rule (wpAny_pure (wpAny_pure ⟨_,rfl,h⟩)))
section
variable {A:Around} {s:Shared}
theorem RcAt.bytes_bytes (a:Array UInt8) (t:Tok) (b:Array UInt8) (u:Tok):RcAt A s (.bytes a t) (.bytes b u) (a.toList==b.toList):=fun prog w E Q h =>
 richCompare_gives (op:=.Eq) (T := "bytes") rfl rfl FB.slot_bytes_eq FB.entry_bytes_eq (FB.args_bytes_eq_2 _ _) (gives_bytes_eq a b t u) (fun x=>nomatch x) h
theorem RcNeAt.bytes_bytes (a:Array UInt8) (t:Tok) (b:Array UInt8) (u:Tok):RcNeAt A s (.bytes a t) (.bytes b u) (!(a.toList==b.toList)):=fun prog w E Q h =>
 richCompare_gives (op:=.NotEq) (T := "bytes") rfl rfl FB.slot_bytes_ne FB.entry_bytes_ne (FB.args_bytes_ne_2 _ _) (gives_bytes_ne a b t u) (fun x=>nomatch x) h
theorem k4b {x y:V} {u v:Value} {b:Bool} (r:VR s.heap x u) (r':VR s.heap y v) (e:QZ x y=some b):RcAt A s u v b∧RcNeAt A s u v (!b) :=
 ZN e (fun hx hy eb=>by subst hx hy;obtain rfl:=r;obtain rfl:=r';exact eb▸⟨RcAt.none_none,RcNeAt.none_none⟩)
  (fun p q hx hy eb=>by subst hx hy;obtain rfl:=r;obtain rfl:=r';exact eb▸⟨RcAt.bool_bool _ _,RcNeAt.bool_bool _ _⟩)
  (fun p q hx hy eb=>by subst hx hy;obtain ⟨t,rfl⟩:=r;obtain ⟨t',rfl⟩:=r';exact eb▸⟨RcAt.int_int _ _ _ _,RcNeAt.int_int _ _ _ _⟩)
  (fun p q hx hy eb=>by subst hx hy;obtain ⟨t,rfl⟩:=r;obtain ⟨t',rfl⟩:=r';exact ((k39 p q).trans eb)▸⟨RcAt.str_str (ke p) t (ke q) t',RcNeAt.str_str (ke p) t (ke q) t'⟩)
  (fun p q hx hy eb=>by subst hx hy;obtain ⟨t,rfl⟩:=r;obtain ⟨t',rfl⟩:=r';exact eb▸⟨RcAt.bytes_bytes p.toArray t q.toArray t',RcNeAt.bytes_bytes p.toArray t q.toArray t'⟩)
end
section
variable {prog:Program} {w:World} {b0:Heap} {os0:OsState} {l:List Env} {σ σ' σ₁ σ₂:Sto} {s s' s₁ s₂:Shared} {h h':Heap} {A:Around} {E:Value→Shared→Prop}
noncomputable def qY (b0:Heap):Prop:=∃ o,b0.get? sysModules=some o
theorem Inv.notMods (I:Inv prog w b0 os0 l σ s) (H:qY b0) {a:Addr} (e:σ.has a):(a==sysModules)=false:=by
 cases q:a==sysModules with
 | false=>rfl
 | true =>
  have:a=sysModules:=by simpa using q
  subst this
  obtain ⟨o,h⟩:=H
  have:=I.off _ e
  rw[h] at this;injection this
theorem jx {a:Addr} {c:yO} (e:σ.get a=some c):σ.has a:=by show σ.get a≠none;refine er e ?_;simp
theorem k2f {a:Addr} {kvs:List (V×V)} (e:qT prog w h a (.dict kvs)):∃ es n,h.get? a=some { cls:=.type "dict",data:=.dict es n }∧es.size=kvs.length:=by
 refine bc fun zg=>?_
 refine x11 e ?_;clear e;intro ps zn1 r;obtain ⟨⟨c,d,dt,sl⟩,es,ep,ho,hx,hd,hk,hp,hn⟩:=zn1
 refine x02 hx ?_;clear hx;intro hx1 hx2 hx3
 simp only at hx1 hx2 hx3 hd
 subst hx1 hx2 hx3 hd
 refine zg ?_;clear zg
 refine ⟨es,ep,ho,?_⟩
 have h1:es.toList.length=ps.length:=hp.length
 have h2:∀ {kvs:List (V×V)} {ps:List (Key×Value)},KvR h kvs ps→kvs.length=ps.length:=by
  intro kvs
  induction kvs with
  | nil=>intro ps r;refine er (show ps=[] from r) ?_;rfl
  | cons kv kvs ih =>
   intro ps r
   obtain ⟨k,x⟩:=kv
   refine x33 r ?_;clear r;intro q v qs zr3 z9 z9 r;subst zr3
   simp[ih r]
 refine er (h2 r) (er (Eq.symm h1) ?_);simp
theorem k3Z {x y:V} {b:Bool} (e:eqV x y σ=some b) {G:Prop} (k1:∀ a c xs ys,jq x=some a→jq y=some c→σ.get a=some (.list xs)→σ.get c=some (.list ys)→(if xs.length=ys.length then wo xs ys else some false)=some b→G)
  (k2:∀ a c xs,jq x=some a→jq y=some c→σ.get a=some (.dict xs)→σ.get c=some (.dict [])→xs.isEmpty=b→G) (k3:QL x y=some b→G):G:=by
 replace e:(match jq x with
 | some a=>(jq y).bind fun b=>match asL (σ.get a) with
  | some xs=>(asL (σ.get b)).bind fun ys=>if xs.length=ys.length then wo xs ys else some false
  | none=>(asD (σ.get a)).bind fun xs=>(asD (σ.get b)).bind fun ys=>if ys.isEmpty=true then some xs.isEmpty else none
 | none=>QL x y)=some b:=e
 cases hx:jq x with
 | none=>rw[hx] at e;exact k3 e
 | some a =>
  rw[hx] at e
  refine ob e fun c hc e=>?_
  cases ha:asL (σ.get a) with
  | some xs=>rw[ha] at e;exact ob e fun ys hy e=>k1 a c xs ys hx hc (YW ha) (YW hy) e
  | none=>rw[ha] at e;exact ob e fun xs h1 e=>ob e fun ys h2 e=>oi e fun z e=>k2 a c xs hx hc (Zc h1) (by exact er (Zc h2) (er (List.isEmpty_iff.1 z) rfl)) e
theorem ZO (I:Inv prog w b0 os0 l σ s) (H:qY b0) (hu:A.units+1<cLine) {x y:V} {u v:Value} {b:Bool} (rx:VR s.heap x u) (ry:VR s.heap y v) (q:eqV x y σ=some b) :
  RcAt A s u v b∧(UB y σ=true→RcNeAt A s u v (!b)) :=
 k3Z q
  (fun a c xs ys ea ec ha hc q=>x21 (qz I ha) fun vs n h1 r1=>x21 (qz I hc) fun ws m h2 r2=>by
   refine er (Zr rx ea) ?_;refine er (Zr ry ec) ?_
   exact ⟨(k10 hu h1 h2 r1 r2 q).1,fun z9=>(k10 hu h1 h2 r1 r2 q).2⟩)
  (fun a c xs ea ec ha hc q=>x21 (k2f (I.own _ _ ha)) fun es n h1 e1=>x21 (k2f (I.own _ _ hc)) fun es' m h2 e2=>by
   rw[Zr rx ea,Zr ry ec]
   rw[Array.eq_empty_of_size_eq_zero e2] at h2
   refine ⟨fun prog w E Q h=>?_,fun z=>?_⟩
   ·have em:es.isEmpty=b:=by rw[← q,Bool.eq_iff_iff,Array.isEmpty_iff_size_eq_zero,List.isEmpty_iff_length_eq_zero,e1]
    exact richCompare_meets_room (op:=.Eq) ⟨_,h1,rfl⟩ ⟨_,h2,rfl⟩ PySem.F.slot_dict_eq PySem.F.entry_dict_eq (PySem.F.args_dict_eq_2 _ _) (k0K a c es n m (I.notMods H (jx ha)) (I.notMods H (jx hc)))
     ⟨h1,h2,show Value.bool es.isEmpty≠Value.notImplemented∧Q (.bool es.isEmpty) s from ⟨nofun,em▸h⟩⟩ (by lia)
   ·replace z:(match jq y with | some a=>(asD (σ.get a)).isNone | none=>true)=true:=z
    rw[ec] at z;replace z:(asD (σ.get c)).isNone=true:=z
    rw[hc] at z;injection z)
  fun q=>yK q (fun q=>⟨(k4b rx ry q).1,fun z9=>(k4b rx ry q).2⟩) fun xs ys e1 e2 l e=>x32 (k9h rx e1) fun a n vs z1 h1 q1=>x32 (k9h ry e2) fun c m ws z2 h2 q2=>by
   refine er z1 ?_;refine er z2 ?_
   have y1:=RcAt.tuples (A:=A) (KL h1) (KL h2) (by lia) (k1C q1 q2 e ue)
   have y2:=RcNeAt.tuples (A:=A) (KL h1) (KL h2) (by lia) (k1C q1 q2 e ue)
   rw[k2b q1 q2 e] at y1 y2
   exact ⟨y1,fun z9=>y2⟩
end
noncomputable def COp.op:COp→CmpOp
 | .eq=>.Eq | .ne=>.NotEq | .lt=>.Lt | .le=>.LtE | .gt=>.Gt | .ge=>.GtE | .isin=>.In | .notin=>.NotIn | .is=>.Is | .isnot=>.IsNot
section
variable {prog:Program} {w:World} {b0:Heap} {os0:OsState} {l:List Env} {σ σ' σ₁ σ₂:Sto} {s s' s₁ s₂:Shared} {h h':Heap} {A:Around} {E:Value→Shared→Prop}
variable (prog w b0 os0 l) in
def PB (σ:Sto) (s:Shared) (Q:Bool→Prop):Value→Shared→Prop:=fun v s'=>∃ b,v=.bool b∧kQ prog w b0 os0 l σ s σ s'∧Q b
theorem PB.same (I:Inv prog w b0 os0 l σ s) {b:Bool} {k:Tok} {Q:Bool→Prop} (q:Q b):PB prog w b0 os0 l σ s Q (.bool b) { s with toks:=k }:=⟨b,rfl,kQ.same I,q⟩
theorem PB.same' (I:Inv prog w b0 os0 l σ s) {b:Bool} {Q:Bool→Prop} (q:Q b):PB prog w b0 os0 l σ s Q (.bool b) s:=⟨b,rfl,kQ.refl I,q⟩
theorem UK {x:V} {v:Value} (r:VR h x v):(v==.none)=k4w x:=by
 cases x with
 | none=>obtain rfl:=r;rfl
 | bool=>obtain rfl:=r;rfl
 | int=>obtain ⟨t,rfl⟩:=r;rfl
 | str=>obtain ⟨t,rfl⟩:=r;rfl
 | bytes=>obtain ⟨t,rfl⟩:=r;rfl
 | ref=>obtain rfl:=r;rfl
 | tup=>exact x32 r fun a n vs e z9 z9=>by refine er e ?_;rfl
 | lam=>obtain ⟨a,_,_,_,_,_,_,rfl,_⟩:=r;rfl
theorem KvR.cons_eq {k x:V} {kvs:List (V×V)} {ps:List (Key×Value)} (r:KvR h ((k,x)::kvs) ps):∃ q v qs,ps=(q,v)::qs∧k=q.v∧VR h x v∧KvR h kvs qs:=r
theorem KvR.nil_eq {ps:List (Key×Value)} (r:KvR h [] ps):ps=[]:=r
theorem JI (q:Key):q.v.key?=some q:=by cases q <;> rfl
theorem k2d {kvs:List (V×V)} {k:Key}:∀ {ps:List (Key×Value)},KvR h kvs ps→(match kE kvs k with | some x=>∃ v,valueAt ps k=some v∧VR h x v | none=>valueAt ps k=none):=by
 induction kvs with
 | nil=>intro ps r;rw[r.nil_eq];rfl
 | cons p kvs ih =>
  obtain ⟨kk,x⟩:=p
  intro ps r
  refine x33 r.cons_eq fun q v qs e1 e2 rv r=>?_
  refine er e1 ?_;refine er e2 ?_
  show (match (if q.v.key?=some k then some x else kE kvs k) with | some x=>∃ u,valueAt ((q,v)::qs) k=some u∧VR h x u | none=>valueAt ((q,v)::qs) k=none)
  refine er (JI _) ?_
  by_cases z:q=k
  ·rw[if_pos (congrArg some z)]
   exact ⟨v,by simp[valueAt,z],rv⟩
  ·rw[if_neg fun e=>z (Option.some.inj e),show valueAt ((q,v)::qs) k=valueAt qs k by simp[valueAt,List.find?_cons,z]]
   exact ih r
theorem JP {kvs:List (V×V)} {k:Key} {ps:List (Key×Value)} {x:V} (r:KvR h kvs ps) (e:kE kvs k=some x):∃ v,valueAt ps k=some v∧VR h x v:=by
 have z:=k2d (k:=k) r;rw[e] at z;exact z
theorem wE {kvs:List (V×V)} {k:Key} {ps:List (Key×Value)} (r:KvR h kvs ps) (e:kE kvs k=none):valueAt ps k=none:=by
 have z:=k2d (k:=k) r;rw[e] at z;exact z
theorem Uv {kvs:List (V×V)} {k:Key} {ps:List (Key×Value)} (r:KvR h kvs ps):(valueAt ps k).isSome=(kE kvs k).isSome:=by
 cases e:kE kvs k with
 | none=>refine er (wE r e) ?_;rfl
 | some x=>exact x11 (JP r e) fun v e' z9=>by refine er e' ?_;rfl
noncomputable def K0L:Value→Option Addr
 | .ref a=>some a
 | _=>none
theorem k0r {v:Value} {a:Addr} (e:K0L v=some a):v=.ref a:=by cases v <;> first | exact congrArg _ (Option.some.inj e) | injection e
noncomputable def k8D (x:V) (σ:Sto) (y:Value):Bool:=((K0L y).bind fun a=>eqV (.ref a) x σ).getD false
theorem k4d {x y:V} {v:Value} {b:Bool} (r:VR h x v) (r':VR h y v) (e:QL x y=some b):b=true :=
 yK e (zq r r') fun xs ys e1 e2 l e=>x32 (k9h r e1) fun a n vs z1 h1 q1=>x32 (k9h r' e2) fun c m ws z2 h2 q2=>by
  obtain rfl:=Value.ref.inj (z1.symm.trans z2)
  obtain rfl:vs=ws:=by
   injection h1.symm.trans h2 with z;injection z with _ _ z;injection z with z;exact congrArg Array.toList z
  exact WM zq q1 q2 e
theorem k6f (I:Inv prog w b0 os0 l σ s) {x:V} {a:Addr} {p:Bool} (rx:VR s.heap x (.ref a)) (e:eqV (.ref a) x σ=some p):p=true :=
 k3Z e
  (fun a' c xs ys e1 e2 g1 g2 q=>by
   obtain rfl:=Option.some.inj e1
   obtain rfl:=Value.ref.inj (Zr rx e2)
   obtain rfl:xs=ys:=by injection g1.symm.trans g2 with z;injection z
   rw[if_pos rfl] at q
   exact x21 (qz I g1) fun vs n z9 r=>WM k4d r r q)
  (fun a' c xs e1 e2 g1 g2 q=>by
   obtain rfl:=Option.some.inj e1
   obtain rfl:=Value.ref.inj (Zr rx e2)
   obtain rfl:xs=[]:=by injection g1.symm.trans g2 with z;injection z
   exact q.symm)
  fun q=>yK q (fun q=>by injection q) fun xs ys q=>by injection q
theorem K0A (I:Inv prog w b0 os0 l σ s) (H:qY b0) (hu:A.units+2<cLine) {x:V} {u:Value} (rx:VR s.heap x u) {a:Addr} {p:Bool} (e:eqV (.ref a) x σ=some p):EqAt A.in1 s (.ref a) u p:=by
 by_cases hu':u=.ref a
 ·rw[hu'] at rx ⊢
  refine er (k6f I rx e) ?_;exact EqAt.same _
 ·intro prog w E Q hq
  unfold eqBool
  refine wpAny_holding (wpAny_ite_split (fun hab=>absurd (eq_of_beq hab).symm hu') fun z9=>?_)
  have step:wpAny (model prog w) A.in1 (richCompare .Eq (.ref a) u) (fun c s'=>wpAny (model prog w) A.in1 (truthOfDropped c) Q E s') E s :=
   (ZO (A:=A.in1) I H (by simpa using hu) (x:=.ref a) (u:=.ref a) rfl rx e).1 prog w E _ (wpAny_truthy_bool hq)
  cases u <;> exact wpAny_bind step
theorem Ui (I:Inv prog w b0 os0 l σ s) (H:qY b0) (hu:A.units+2<cLine) {x:V} {u:Value} (rx:VR s.heap x u) {ys:List V}:∀ {vs:List Value} {b:Bool},VRs s.heap ys vs→zG x σ ys=some b →
  (∀ y,y∈vs→EqAt A.in1 s y u (k8D x σ y))∧vs.any (k8D x σ)=b:=by
 induction ys with
 | nil=>intro vs b r e;refine er r.nil_eq ?_;exact ⟨fun y m=>absurd m List.not_mem_nil,Option.some.inj e⟩
 | cons y ys ih =>
  intro vs b r e
  refine x22 r.cons_eq fun v q ev r1 r2=>?_
  refine ob (f:=fun a=>(eqV (.ref a) x σ).bind fun p=>(zG x σ ys).map (p||·)) e fun a ea e=>ob e fun p e1 e=>om e fun q' e2 e=>?_
  obtain ⟨h1,h2⟩:=ih r2 e2
  have ee:k8D x σ (.ref a)=p:=congrArg (·.getD false) e1
  refine er ev (er (Zr r1 ea) (er List.any_cons (er h2 (er ee ?_))))
  refine ⟨fun y' m=>?_,e⟩
  rcases List.mem_cons.mp m with m | m
  ·refine er m (er ee ?_);exact K0A I H hu rx e1
  ·exact h1 y' m
theorem wU {x y:V} {u v:Value} {P:Int→Int→Prop} (rx:VR h x u) (ry:VR h y v) (q:k38 x y P) {G:Prop} (k:∀ a b t t',u=.int a t→v=.int b t'→P a b→G):G :=
 su q fun a ea q=>su q fun b eb q=>(k0N rx ea).elim fun t e=>(k0N ry eb).elim fun t' e'=>k a b t t' e e' q
theorem k5s {x y:V} {b:Bool} (e:inV x y σ=some b) {G:Prop}
  (k1:∀ a xs,jq y=some a→σ.get a=some (.list xs)→zG x σ xs=some b→G)
  (k2:∀ a kvs k,jq y=some a→σ.get a=some (.dict kvs)→x.key?=some k→(kE kvs k).isSome=b→G)
  (k3:∀ bs i,qC y=some bs→qF x=some i→0≤i∧i<256→(bs.any fun c=>((c.toNat:Nat):Int)==i)=b→G)
  (k4:∀ cs c,qk y=some cs→qk x=some [c]→cs.contains c=b→G):G:=by
 replace e:(match jq y with
 | some a=>(match asL (σ.get a) with
  | some xs=>zG x σ xs
  | none=>(asD (σ.get a)).bind fun kvs=>x.key?.map fun k=>(kE kvs k).isSome)
 | none=>match qC y with
  | some b=>(qF x).bind fun i=>if 0≤i∧i<256 then some (b.any fun c=>((c.toNat:Nat):Int)==i) else none
  | none=>(qk y).bind fun s=>(qk x).bind fun c=>(one c).map fun c=>s.contains c)=some b:=e
 cases hy:jq y with
 | some a =>
  rw[hy] at e;dsimp only at e
  cases ha:asL (σ.get a) with
  | some xs=>rw[ha] at e;exact k1 a xs hy (YW ha) e
  | none=>rw[ha] at e;exact ob e fun kvs h1 e=>om e fun k hk e=>k2 a kvs k hy (Zc h1) hk e
 | none =>
  rw[hy] at e;dsimp only at e
  cases hb:qC y with
  | some bs =>
   rw[hb] at e
   refine ob e fun i hi e=>?_
   by_cases z:0≤i∧i<256
   ·rw[if_pos z] at e;exact k3 bs i hb hi z (Option.some.inj e)
   ·rw[if_neg z] at e;injection e
  | none=>rw[hb] at e;exact ob e fun cs hc e=>ob e fun c hx e=>om e fun c h1 e=>k4 cs c hc (KP h1▸hx) e
theorem k5v (c:Nat) (cs:List Nat):decide (c∈(ke cs).cps.toList)=cs.contains c:=by rw[Bool.eq_iff_iff];simp
theorem jQ (I:Inv prog w b0 os0 l σ s) (H:qY b0) (hu:A.units+2<cLine) {op:COp} {x y:V} {u v:Value} {Q:Bool→Prop} (rx:VR s.heap x u) (ry:VR s.heap y v) (q:k59 op x y σ Q) :
  wpAny (model prog w) A (compareOp op.op u v) (PB prog w b0 os0 l σ s Q) E s:=by
 cases op with
 | eq=>exact su q fun b e q=>(ZO (A:=A) I H (by lia) rx ry e).1 prog w E _ (PB.same' I q)
 | ne=>exact su q.2 fun b e z=>(ZO (A:=A) I H (by lia) rx ry e).2 q.1 prog w E _ (PB.same' I z)
 | lt=>exact wU rx ry q fun a b t t' e e' q=>by refine er e ?_;refine er e' ?_;exact PySem.P.lt_int (PB.same' I q)
 | le=>exact wU rx ry q fun a b t t' e e' q=>by refine er e ?_;refine er e' ?_;exact PySem.P.le_int (PB.same' I q)
 | gt=>exact wU rx ry q fun a b t t' e e' q=>by refine er e ?_;refine er e' ?_;exact PySem.P.gt_int (PB.same' I q)
 | ge=>exact wU rx ry q fun a b t t' e e' q=>by refine er e ?_;refine er e' ?_;exact PySem.P.ge_int (PB.same' I q)
 | is=>exact su q fun z9 e q=>by refine er (K0j ry e) ?_;exact PySem.is_none (PB.same' I (by refine er (UK rx) ?_;exact q))
 | isnot=>exact su q fun z9 e q=>by refine er (K0j ry e) ?_;exact PySem.isNot_none (PB.same' I (by refine er (UK rx) ?_;exact q))
 | isin =>
  refine su q fun b e q=>k5s e (fun a xs hy ha e=>?_) (fun a kvs k hy ha hk e=>?_) (fun bs i hy hx hi e=>?_) (fun cs c hy hx e=>?_)
  ·refine er (Zr ry hy) ?_
   refine x21 (qz I ha) fun vs n h1 r1=>?_
   obtain ⟨z1,z2⟩:=Ui I H hu rx r1 e
   refine in_listAt _ (kF h1) (fun y m=>z1 y (Array.mem_toArray.1 m)) ?_
   refine er List.any_toArray ?_;refine er z2 ?_;exact PB.same' I q
  ·refine er (Zr ry hy) ?_
   rw[x.key_eq hk] at rx
   refine x11 (I.own _ _ ha) fun ps hd r=>?_
   refine wpAny_in_of (knd:=kB prog w) (k.is_of rx) (I.notMods H (jx ha)) hd.mapOf ?_
   refine er (Uv r) ?_;refine er e ?_;exact PB.same I q
  ·obtain ⟨t,rfl⟩:=k0N rx hx;obtain ⟨t',rfl⟩:=k3q ry hy
   exact SeqRoads2.in_meets (typeIs_bytes _ _ _) FB.slot_bytes_contains FB.entry_bytes_contains (FB.args_bytes_contains_2 _ _) (uy bs i t' t hi.1 hi.2) ⟨_,rfl,PB.same' I (e▸q)⟩
  ·obtain ⟨t,rfl⟩:=k3e rx hx;obtain ⟨t',rfl⟩:=k3e ry hy
   refine PyProof.Rows.in_str (PB.same' I ?_)
   refine er (show ke [c]=⟨#[c]⟩ from rfl) ?_;refine er (StrLaws.found_one _ _) ?_;refine er (k5v _ _) ?_;refine er e ?_;exact q
 | notin =>
  refine su q fun b e q=>k5s e (fun a xs hy ha e=>?_) (fun a kvs k hy ha hk e=>?_) (fun bs i hy hx hi e=>?_) (fun cs c hy hx e=>?_)
  ·refine er (Zr ry hy) ?_
   refine x21 (qz I ha) fun vs n h1 r1=>?_
   obtain ⟨z1,z2⟩:=Ui I H hu rx r1 e
   refine notIn_listAt _ (kF h1) (fun y m=>z1 y (Array.mem_toArray.1 m)) ?_
   refine er List.any_toArray ?_;refine er z2 ?_;exact PB.same' I q
  ·refine er (Zr ry hy) ?_
   rw[x.key_eq hk] at rx
   refine x11 (I.own _ _ ha) fun ps hd r=>?_
   refine wpAny_notIn_of (knd:=kB prog w) (k.is_of rx) (I.notMods H (jx ha)) hd.mapOf ?_
   refine er (Uv r) ?_;refine er e ?_;exact PB.same I q
  ·obtain ⟨t,rfl⟩:=k0N rx hx;obtain ⟨t',rfl⟩:=k3q ry hy
   exact SeqRoads2.notIn_meets (typeIs_bytes _ _ _) FB.slot_bytes_contains FB.entry_bytes_contains (FB.args_bytes_contains_2 _ _) (uy bs i t' t hi.1 hi.2) ⟨_,rfl,PB.same' I (e▸q)⟩
  ·obtain ⟨t,rfl⟩:=k3e rx hx;obtain ⟨t',rfl⟩:=k3e ry hy
   refine PyProof.Rows.notIn_str (PB.same' I ?_)
   refine er (show ke [c]=⟨#[c]⟩ from rfl) ?_;refine er (StrLaws.found_one _ _) ?_;refine er (k5v _ _) ?_;refine er e ?_;exact q
end
section
variable {prog:Program} {w:World} {b0:Heap} {os0:OsState} {l:List Env} {σ σ' σ₁ σ₂:Sto} {s s' s₁ s₂:Shared} {h h':Heap} {A:Around} {E:Value→Shared→Prop}
variable (prog w b0 os0 l) in
def PT (σ:Sto) (s:Shared) (Q:Bool→Prop):Bool→Shared→Prop:=fun b s'=>kQ prog w b0 os0 l σ s σ s'∧Q b
theorem KB:sizeLine=kt:=sizeLine_eq
theorem qK (I:Inv prog w b0 os0 l σ s) {x:V} {u:Value} {Q:Bool→Prop} (rx:VR s.heap x u) (q:ZT x σ Q) :
  wpAny (model prog w) A (truthy u) (PT prog w b0 os0 l σ s Q) E s:=by
 cases x with
 | none=>obtain rfl:=rx;exact truthy_none ⟨.refl I,q⟩
 | bool b=>obtain rfl:=rx;exact wpAny_truthy_bool ⟨.refl I,q⟩
 | int i=>obtain ⟨t,rfl⟩:=rx;exact PyProof.Rows.truthy_int ⟨.refl I,q⟩
 | ref a =>
  obtain rfl:=rx
  refine rL I q fun xs vs n z9 h1 r1 q=>wpAny_truthy_list (kF h1) (by refine er List.size_toArray (er r1.length ?_);exact Int.ofNat_lt.2 (Nat.lt_of_le_of_lt q.1 (by decide))) ⟨kQ.same I,?_⟩
  refine er (show vs.toArray.isEmpty=xs.isEmpty by rw[Bool.eq_iff_iff,Array.isEmpty_iff_size_eq_zero,List.isEmpty_iff_length_eq_zero,List.size_toArray,r1.length]) ?_;exact q.2
 | _=>exact q.elim
theorem UP {i:Int} {n k:Nat} (e:qA i n=some k) {G:Prop} (k1:0≤i→i<n→i.toNat=k→G) (k2:i<0 → -(n:Int)≤i→(i+n).toNat=k→G):G:=by
 unfold qA at e
 by_cases h:0≤i
 ·rw[if_pos h] at e
  by_cases h2:i<n
  ·rw[if_pos h2] at e;exact k1 h h2 (Option.some.inj e)
  ·rw[if_neg h2] at e;injection e
 ·rw[if_neg h] at e
  by_cases h2:0≤i+n
  ·rw[if_pos h2] at e;exact k2 (Int.not_le.1 h) (by lia) (Option.some.inj e)
  ·rw[if_neg h2] at e;injection e
theorem Wp {i:Int} {n k:Nat} (e:qA i n=some k):seqIndex? i n=some k∧k<n :=
 UP e (fun h0 h1 e=>e▸⟨StrLaws.seqIndex_nonneg h0 h1,by lia⟩) fun h0 h1 e=>e▸⟨StrLaws.seqIndex_neg h0 h1,by lia⟩
theorem VRs.drop {h:Heap}:∀ {n:Nat} {xs:List V} {vs:List Value},VRs h xs vs→VRs h (xs.drop n) (vs.drop n)
 | 0,_,_,e=>e
 | n+1,[],_,e=>by refine er e.nil_eq ?_;exact .nil
 | n+1,x::xs,_,e=>x22 e.cons_eq fun v r z z9 e=>by refine er z ?_;exact e.drop (n:=n)
theorem VRs.take {h:Heap}:∀ {n:Nat} {xs:List V} {vs:List Value},VRs h xs vs→VRs h (xs.take n) (vs.take n)
 | 0,_,_,_=>.nil
 | n+1,[],_,e=>by refine er e.nil_eq ?_;exact .nil
 | n+1,x::xs,_,e=>x22 e.cons_eq fun v r z e1 e=>by refine er z ?_;exact .cons e1 (e.take (n:=n))
theorem VRs.reverse {h:Heap}:∀ {xs:List V} {vs:List Value},VRs h xs vs→VRs h xs.reverse vs.reverse
 | [],_,e=>by refine er e.nil_eq ?_;exact .nil
 | x::xs,_,e=>x22 e.cons_eq fun v r z e1 e=>by refine er z (er List.reverse_cons (er List.reverse_cons ?_));exact e.reverse.append (.cons e1 .nil)
theorem VRs.getD {h:Heap} {xs:List V} {vs:List Value} {k:Nat} (r:VRs h xs vs) (hk:k<xs.length):∃ v,vs[k]?=some v∧VR h (xs.getD k .none) v :=
 r.get (i:=k) (x:=xs.getD k .none) (by rw[List.getD,List.getElem?_eq_getElem hk];rfl)
theorem k7F {α:Type} (xs:List α) (lo hi:Option Int):JX xs lo hi=(xs.drop (lo.elim 0 (clipAt xs.length))).take (hi.elim xs.length (clipAt xs.length)-lo.elim 0 (clipAt xs.length)):=by
 unfold JX
 refine er List.drop_take ?_;rfl
theorem zv {value slice:Expr} {o i:Value} {ops:List Value} {Q:Value→Shared→Prop} (hg:ItemOn (model prog w) A E o i Q s)
  (hs:subscripted slice false o i=operate ops (getItem o i)):wpAny (model prog w) A (subscriptTail value slice o i) Q E s:=by
 refine x22 hg ?_;clear hg;intro T id hl hT hg
 exact tail_any hT hl hg hs
theorem uf {α:Type} {l:List α} {k:Nat} {d:α} (h:k<l.length):l[k]?=some (l.getD k d):=by rw[List.getD,List.getElem?_eq_getElem h];rfl
theorem YM (I:Inv prog w b0 os0 l σ s) (H:qY b0) {x y:V} {u v:Value} {Q:QV} (rx:VR s.heap x u) (ry:VR s.heap y v) (q:YH x y σ Q) :
  ItemOn (model prog w) A E u v (PV prog w b0 os0 l σ s Q) s:=by
 cases x with
 | str cs =>
  refine su q fun i ei q=>su (gsm q).2 fun k hk qq=>?_
  obtain ⟨t,rfl⟩:=rx;obtain ⟨t',rfl⟩:=k0N ry ei
  obtain ⟨e,hlt⟩:=Wp hk
  refine ⟨"str",_,F.slot_str_getitem.lookup,typeIs_str _ _ _,PyProof.Rows.getItem_str (c:=cs.getD k 0) ?_ ?_ (PV.same I vrS qq)⟩
  ·have hz:=(gsm q).1;unfold KI at hz;rw[Bool.or_eq_false_iff,decide_eq_false_iff_not,decide_eq_false_iff_not];lia
  ·rw[show (ke cs).length=cs.length from rfl,e]
   exact (List.getElem?_toArray ..).trans (uf hlt)
 | bytes cs =>
  refine su q fun i ei q=>su (gsm q).2 fun k hk qq=>?_
  obtain ⟨t,rfl⟩:=rx;obtain ⟨t',rfl⟩:=k0N ry ei
  obtain ⟨e,hlt⟩:=Wp hk
  refine ⟨"bytes",_,FB.slot_bytes_getitem.lookup,typeIs_bytes _ _ _,getItem_gives (typeIs_bytes s _ t) (by decide) FB.slot_bytes_getitem FB.entry_bytes_getitem (FB.args_bytes_getitem_2 _ _) (gives_bytes_getitem _ _ t t' (cs.getD k 0) ?_ ?_) (PV.same I vrI qq)⟩
  ·have hz:=(gsm q).1;unfold KI at hz;simp only[Builtin.Bytes.fitsIndex,Bool.and_eq_true,decide_eq_true_eq];lia
  ·refine er List.size_toArray (er e ?_)
   exact (List.getElem?_toArray ..).trans (uf hlt)
 | tup xs =>
  refine su q fun i ei q=>su (gsm q).2 fun k hk qq=>x32 rx fun a n vs ea h1 r1=>?_
  refine er ea ?_;obtain ⟨t',rfl⟩:=k0N ry ei
  obtain ⟨e,hlt⟩:=Wp hk
  refine x11 (r1.getD hlt) fun v hv rv=>?_
  have hz:=(gsm q).1;unfold KI at hz
  exact ⟨"tuple",_,F.slot_tuple_getitem.lookup,⟨_,h1,rfl⟩,P.getItem_tuple (items:=vs.toArray) (n:=n) (k:=k) (y:=v) h1 (by lia) (by lia) (by refine er List.size_toArray (er r1.length ?_);exact e) ((List.getElem?_toArray ..).trans hv) (PV.same' I rv qq)⟩
 | ref a =>
  obtain rfl:=rx
  replace q:(match asL (σ.get a) with
  | some xs=>kT (qF y) fun i=>k2g (wM i) (kT (qA i xs.length) fun k=>Q (xs.getD k .none) σ)
  | none=>kT (asD (σ.get a)) fun kvs=>kT y.key? fun k=>kT (kE kvs k) fun v=>Q v σ):=q
  cases ha:asL (σ.get a) with
  | some xs =>
   rw[ha] at q
   refine su q fun i ei q=>su (gsm q).2 fun k hk qq=>x21 (qz I (YW ha)) fun vs n h1 r1=>?_
   obtain ⟨t',rfl⟩:=k0N ry ei
   refine x11 (r1.getD (Wp hk).2) fun v hv rv=>?_
   have hz:=(gsm q).1;unfold KI at hz
   refine ⟨"list",_,F.slot_list_getitem.lookup,⟨_,h1,rfl⟩,UP hk (fun h0 h1' ek=>?_) fun h0 h1' ek=>?_⟩
   ·exact wpAny_getItem_list (kF h1) h0 (by lia) ((List.getElem?_toArray ..).trans (ek▸hv)) (PV.same' I rv qq)
   ·refine wpAny_getItem_list_neg (kF h1) h0 (by refine er List.size_toArray (er r1.length ?_);exact h1') (by lia) ?_ (PV.same' I rv qq)
    refine er List.size_toArray (er r1.length (er ek ?_));exact (List.getElem?_toArray ..).trans hv
  | none =>
   rw[ha] at q
   refine inD q fun kvs ha q=>su q fun k hk q=>su q fun x hx q=>x11 (I.own _ _ ha) fun ps hd r=>x11 (JP r hx) fun v' z rv=>?_
   rw[y.key_eq hk] at ry
   exact ⟨"dict",_,slot_dict_getitem.lookup,hd.mapOf.typeIs,wpAny_getItem_of (knd:=kB prog w) (k.is_of ry) hd.mapOf z (PV.same I rv q)⟩
 | _=>exact q.elim
theorem k3t (lo hi:Option Int) (n:Nat):Builtin.Str.strSliceIndices lo hi 1 n=(List.range (k2O n hi-k2D n lo)).map (k2D n lo+·):=by
 refine er (Eq.symm (sliceRange_one _ _)) ?_
 unfold Builtin.Str.strSliceIndices k2D k2O
 cases lo <;> cases hi <;> simp[clipAt_cast]
theorem k4V {n l:Nat} (e:n+1-l=n+1):l=0:=by
 cases l with
 | zero=>rfl
 | succ k=>rw[Nat.add_sub_add_right] at e;exact absurd (Nat.sub_le n k) (er e (Nat.not_succ_le_self n))
theorem k88 {α:Type} {xs:List α} {lo hi:Option Int} (e:k2O xs.length hi-k2D xs.length lo=xs.length):JX xs lo hi=xs:=by
 have h1:k2O xs.length hi≤xs.length:=by
  cases hi with
  | none=>exact Nat.le_refl _
  | some i=>exact k8Z
 have h3:k2O xs.length hi=xs.length:=Nat.le_antisymm h1 (Nat.le_trans (Nat.le_of_eq e.symm) (Nat.sub_le _ _))
 unfold JX
 refine er h3 (er List.take_length ?_)
 rw[h3] at e
 cases xs with
 | nil=>exact List.drop_nil
 | cons x xs=>refine er (show k2D (x::xs).length lo=0 from k4V e) ?_;rfl
theorem k4u (cs:List Nat) (lo hi:Option Int):Txt.slice (ke cs) lo hi=ke (JX cs lo hi):=by
 unfold Txt.slice
 refine er (show (ke cs).length=cs.length from rfl) ?_;refine er (k3t _ _ _) ?_
 split
 ·rename_i h
  rw[Bool.and_eq_true,beq_iff_eq,beq_iff_eq,List.length_map,List.length_range] at h
  refine er (k88 h.2) ?_;rfl
 ·refine er (pick_run _ _ _) ?_
  simp[ke,JX,List.drop_take]
theorem k3y {v:Value} {p:Option Int} (h:IsPart v p):∃ q:Option (Int×Tok),v=partValue q∧q.map (·.1)=p:=by
 cases h with
 | none=>exact ⟨none,rfl,rfl⟩
 | int i t=>exact ⟨some (i,t),rfl,rfl⟩
noncomputable abbrev k28 (l u st:Value):Obj:={ cls:=.type "slice",data:=.fields #[l,u,st] }
theorem VRs.grow {h:Heap} {xs:List V} {vs:List Value} {o:Obj} (r:VRs h xs vs):VRs (h.push o) xs vs:=r.keep (jM (kW _ _))
set_option tactic.hygienic true in
theorem ZW (I:Inv prog w b0 os0 l σ s) {x:V} {u:Value} {Q:QV} {vl vu:Value} {lo hi:Option Int} (rx:VR s.heap x u) (q:wd x lo hi σ Q) (pl:IsPart vl lo) (pu:IsPart vu hi) :
  ItemOn (model prog w) A E u (.ref s.heap.objs.size) (PV prog w b0 os0 l σ s Q) { s with heap:=s.heap.push (k28 vl vu .none) }:=by
 have S:kQ prog w b0 os0 l σ s σ { s with heap:=s.heap.push (k28 vl vu .none) }:=kQ.grow I (kW _ _)
 have I':=S.inv
 have back:∀ v s',PV prog w b0 os0 l σ { s with heap:=s.heap.push (k28 vl vu .none) } Q v s'→PV prog w b0 os0 l σ s Q v s':=fun z9 z9 p=>p.back S
 cases x with
 | str cs =>
  obtain ⟨t,rfl⟩:=rx
  obtain ⟨hz,q⟩:=q
  refine x11 (k3y pl) fun ql zr1 zr2=>x11 (k3y pu) fun qu zr3 zr4=>?_
  subst zr1 zr2 zr3 zr4
  refine ⟨"str",_,F.slot_str_getitem.lookup,typeIs_str _ _ _,wpAny_getItem_str_slice (l:=ql) (u:=qu) (st:=none) ⟨_,Heap.get?_push_size _ rfl,rfl,rfl⟩ rfl
   (post_val_or_str ⟨Nat.le_trans (Txt.slice_le (ke cs) _ _) (by rw[KB];exact hz),fun t' k=>?_⟩)⟩
  have e:=k4u cs (ql.map (·.1)) (qu.map (·.1))
  refine back _ _ (PV.same I' (x:=.str (JX cs (ql.map (·.1)) (qu.map (·.1)))) ?_ q)
  exact ⟨t',congrArg (fun z=>Value.str z t') e⟩
 | bytes cs =>
  obtain ⟨t,rfl⟩:=rx
  obtain ⟨hz,q⟩:=q
  refine ⟨"bytes",_,FB.slot_bytes_getitem.lookup,typeIs_bytes _ _ _,getItem_meets (typeIs_bytes _ _ _) (by decide) FB.slot_bytes_getitem FB.entry_bytes_getitem (FB.args_bytes_getitem_2 _ _) (KBc.meets_slice2 cs.toArray t _ pl pu)
   ⟨Heap.IsSliceOf.new _ _ _ _,Nat.le_trans (KBc.size_picked_le _ lo hi) (by rw[KB];exact hz),fun t' k=>?_⟩⟩
  refine back _ _ (PV.same I' (x:=.bytes (JX cs lo hi)) ⟨t',congrArg (fun z=>Value.bytes z t') ?_⟩ q)
  refine er (KBc.picked_eq _ _ _) ?_;refine er (k7F _ _ _) ?_
  simp
 | tup xs =>
  cases hi with
  | some _=>exact q.elim
  | none =>
  refine x32 rx fun a n vs e h1 r1=>su q fun i ei q=>x03 q fun q1 q2 q3 qq=>?_
  subst e ei
  cases pu
  cases pl
  rename_i ti
  have ht:IsTup s.heap a vs.toArray:=⟨_,h1,rfl,n,rfl⟩
  have ht':IsTup (s.heap.push (k28 (.int i ti) .none .none)) a vs.toArray:=ht.keeps fun z9 z9 e=>Heap.get?_push_of_some _ e
  have ei:i=((i.toNat:Nat):Int):=by lia
  refine ⟨"tuple",_,PyProof.Rows.slot_tuple_getitem.lookup,ht'.typeIs,?_⟩
  refine getItem_tuple_from (s:={ s with heap:=s.heap.push (k28 (.int i ti) .none .none) }) (a:=i.toNat) (u:=ti) ht' (by refine er (Eq.symm ei) ?_;exact Heap.IsSliceOf.new ..) (by lia) (by refine er List.size_toArray ?_;refine er r1.length ?_;lia) ?_ (by refine er List.size_toArray ?_;refine er r1.length ?_;refine er KB ?_;exact q3)
  exact back _ _ (PV.newTup (n:=0) (k:=s.toks) I' r1.grow.drop qq)
 | ref a =>
  obtain rfl:=rx
  refine rL I q fun xs vs n z9 h1 r1 q=>?_
  refine ⟨"list",_,F.slot_list_getitem.lookup,((kF h1).push _).typeIs,wpAny_getItem_list_slice ((kF h1).push _) (Heap.IsSliceOf.new ..) pl pu .none (by simp) ?_ (by refine er List.size_toArray ?_;refine er r1.length ?_;refine er KB ?_;exact q.1)⟩
  refine er (slicePick_plain _ _ _) ?_;rw[show vs.toArray.size=xs.length from r1.length]
  exact back _ _ (PV.newList (n:=0) I' (k:=s.toks) (r1.grow.drop.take) (k7F xs lo hi▸q.2))
 | _=>exact q.elim
theorem k0g (I:Inv prog w b0 os0 l σ s) {x:V} {u:Value} {Q:QV} {t:Tok} (rx:VR s.heap x u) (q:k9e x σ Q) :
  ItemOn (model prog w) A E u (.ref s.heap.objs.size) (PV prog w b0 os0 l σ s Q) { s with heap:=s.heap.push (k28 .none .none (.int (-1) t)) } :=
 su q fun a ea q=>rL I q fun xs vs n z9 h1 r1 q=>by
  refine er (Zr rx ea) ?_
  refine ⟨"list",_,F.slot_list_getitem.lookup,((kF h1).push _).typeIs,wpAny_getItem_list_slice ((kF h1).push _) (Heap.IsSliceOf.new ..) .none .none (.int _ t) (by simp) ?_ (by refine er List.size_toArray ?_;refine er r1.length ?_;refine er KB ?_;exact q.1)⟩
  refine er (krv_pick _) ?_
  exact (PV.newList (n:=0) (kQ.grow I (kW _ _)).inv (k:=s.toks) (r1.grow.reverse) q.2).back (kQ.grow I (kW _ _))
end
section
variable {prog:Program} {w:World} {b0:Heap} {os0:OsState} {l:List Env} {σ σ' σ₁ σ₂:Sto} {s s' s₁ s₂:Shared} {h h':Heap} {A:Around} {E:Value→Shared→Prop}
theorem Qr (n:List Nat) (v:Value):(kB prog w).is (.str n) v=v.isStr (ke n):=by
 show Key.is (.str n) v=_
 cases v <;> rfl
theorem Key.not_ref {k:Key} {e:DictEntry} (h:k.is e.key=true):e.refKey=false:=by
 rcases k.is_shape h with ⟨s,t,rfl,e1⟩ | ⟨s,t,rfl,e1⟩ <;> (unfold DictEntry.refKey;exact er e1 rfl)
theorem WT {es:List DictEntry} {ps:List (Key×Value)} (P:Pairs (kB prog w) es ps):es.any (·.refKey)=false:=by
 induction P with
 | nil=>rfl
 | cons a b c ih=>refine er List.any_cons ?_;refine er ih ?_;refine er (Bool.or_false _) ?_;exact Key.not_ref a
theorem uY {d:Addr} {ps:List (Key×Value)} {o:Obj} (hd:h.DictOf (kB prog w) d ps) (ho:h.get? d=some o) (n:List Nat):lookIn (ke n) o=some (valueAt ps (.str n)):=by
 refine x35 hd ?_;clear hd;intro o' es ep ho' hx hdt z9 P z9
 rw[ho] at ho';injection ho' with ho';subst ho'
 unfold lookIn
 refine er hdt ?_
 dsimp only
 have e:=P.find (.str n)
 have e2:es.toList.find? (fun e=>(kB prog w).is (.str n) e.key)=es.toList.find? (·.key.isStr (ke n)):=by
  congr 1;funext x;exact Qr n x.key
 rw[e2] at e
 refine er (WT P) ?_
 cases q:es.toList.find? (·.key.isStr (ke n)) with
 | none=>rw[q] at e;exact congrArg some e
 | some x=>rw[q] at e;exact congrArg some e
theorem k8P {kvs:List (V×V)} {ps:List (Key×Value)} (r:KvR h kvs ps) (k:Key):ps.any (fun kv=>kv.1=k)=kvs.any fun kv=>kv.1.key?=some k:=by
 induction kvs generalizing ps with
 | nil=>refine er r.nil_eq ?_;rfl
 | cons kv kvs ih =>
  obtain ⟨kk,x⟩:=kv
  refine x33 r.cons_eq fun q v qs e1 e rv r=>?_
  refine er e1 ?_;refine er e ?_;refine er List.any_cons ?_;refine er List.any_cons ?_;refine er (ih r) ?_;refine er (JI _) ?_
  exact congrArg (·||_) (decide_eq_decide.2 ⟨congrArg some,Option.some.inj⟩)
theorem k89 {kvs kvs':List (V×V)} {ps ps':List (Key×Value)} (r:KvR h kvs ps) (r':KvR h kvs' ps'):KvR h (kvs++kvs') (ps++ps'):=by
 induction kvs generalizing ps with
 | nil=>refine er r.nil_eq ?_;exact r'
 | cons kv kvs ih =>
  obtain ⟨kk,x⟩:=kv
  exact x33 r.cons_eq fun q v qs e1 e rv r=>⟨q,v,qs++ps',by refine er e1 ?_;rfl,e,rv,ih r⟩
theorem zL {x y v:V} {r:List (V×V)} {k:Key}:Kr ((x,y)::r) k v=if x.key?=some k then (x,v)::r else (x,y)::Kr r k v:=rfl
theorem k2J {x y:V} {r:List (V×V)} {k:Key}:jS ((x,y)::r) k=if x.key?=some k then r else (x,y)::jS r k:=rfl
theorem k5w {kvs:List (V×V)} {k:Key} {v:V} (n:kvs.any (fun kv=>kv.1.key?=some k)=false):Kr kvs k v=kvs++[(k.v,v)]:=by
 induction kvs with
 | nil=>rfl
 | cons kv kvs ih =>
  obtain ⟨kk,x⟩:=kv
  obtain ⟨n1,n2⟩:=Bool.or_eq_false_iff.1 (List.any_cons▸n)
  refine er zL (er (if_neg (of_decide_eq_false n1)) (er (ih n2) ?_));rfl
theorem YT {kvs:List (V×V)} {ps:List (Key×Value)} {k:Key} {x:V} {v:Value} (r:KvR h kvs ps) (nd:(ps.map (·.1)).Nodup) (rv:VR h x v):KvR h (Kr kvs k x) (stored ps k v):=by
 unfold stored
 rw[k8P r k]
 cases hany:kvs.any fun kv=>kv.1.key?=some k with
 | true =>
  rw[if_pos rfl]
  induction kvs generalizing ps with
  | nil=>injection hany
  | cons kv kvs ih =>
   obtain ⟨kk,y⟩:=kv
   refine x33 r.cons_eq fun q u qs e1 e ru r'=>?_
   subst e1 e
   obtain ⟨n1,n2⟩:=List.nodup_cons.1 nd
   rw[zL,JI,List.map_cons]
   by_cases z:q=k
   ·subst z
    rw[if_pos rfl,if_pos rfl,map_store_of_not_mem qs q v n1]
    exact ⟨q,v,qs,rfl,rfl,rv,r'⟩
   ·rw[if_neg fun e=>z (Option.some.inj e),if_neg z]
    refine ⟨q,u,_,rfl,rfl,ru,ih r' n2 ?_⟩
    rw[List.any_cons,JI,decide_eq_false fun e=>z (Option.some.inj e),Bool.false_or] at hany
    exact hany
 | false =>
  rw[if_neg Bool.false_ne_true,k5w hany]
  exact k89 r ⟨k,v,[],rfl,rfl,rv,rfl⟩
theorem k8i {kvs:List (V×V)} {ps:List (Key×Value)} {k:Key} (r:KvR h kvs ps) (nd:(ps.map (·.1)).Nodup):KvR h (jS kvs k) (without ps k):=by
 induction kvs generalizing ps with
 | nil=>refine er r.nil_eq ?_;exact rfl
 | cons kv kvs ih =>
  obtain ⟨kk,y⟩:=kv
  refine x33 r.cons_eq fun q u qs e1 e ru r'=>?_
  subst e1 e
  obtain ⟨n1,n2⟩:=List.nodup_cons.1 nd
  refine er k2J ?_;refine er (JI _) ?_
  unfold without
  by_cases z:q=k
  ·subst z
   refine er (if_pos rfl) (er (List.filter_cons_of_neg (by simp)) ?_)
   refine er (show List.filter _ qs=qs from without_of_not_mem qs _ n1) ?_;exact r'
  ·refine er (if_neg fun e=>z (Option.some.inj e)) (er (List.filter_cons_of_pos (by simpa using z)) ?_)
   exact ⟨q,u,_,rfl,rfl,ru,ih r' n2⟩
theorem DictOf.nodup {d:Addr} {ps:List (Key×Value)} (hd:h.DictOf (kB prog w) d ps):(ps.map (·.1)).Nodup:=x35 hd fun z9 z9 z9 z9 z9 z9 z9 z9 n=>n
theorem Js {kvs:List (V×V)} {ps:List (Key×Value)} (r:KvR h kvs ps):ps.length=kvs.length:=by
 induction kvs generalizing ps with
 | nil=>refine er r.nil_eq ?_;rfl
 | cons kv kvs ih =>
  obtain ⟨kk,y⟩:=kv
  exact x33 r.cons_eq fun q u qs e1 e ru r=>by refine er e1 ?_;exact congrArg (·+1) (ih r)
noncomputable def yb (K:Frag) (C:Addr) (name:PySem.Str):Bool:=plainGet K C name&&hasDictIn K C&&has (findIn K (.ref C) name) (noGet K)
noncomputable def k3N (K:Frag) (C:Addr) (name:PySem.Str):Bool:=findIn K (.ref C) "__setattr__" == some (some (.builtin "object.__setattr__"))&&plainOver K C&&takerIn K C name==some none&&hasDictIn K C
theorem VR.handed {x:V} {v:Value} (r:VR h x v):handedIn v=true:=by
 cases x with
 | none=>obtain rfl:=r;rfl
 | bool=>obtain rfl:=r;rfl
 | int=>obtain ⟨t,rfl⟩:=r;rfl
 | str=>obtain ⟨t,rfl⟩:=r;rfl
 | bytes=>obtain ⟨t,rfl⟩:=r;rfl
 | ref=>obtain rfl:=r;rfl
 | tup=>exact x32 r fun a n vs e z9 z9=>by refine er e ?_;rfl
 | lam=>obtain ⟨a,_,_,_,_,_,_,rfl,_⟩:=r;rfl
theorem Inv.KIn {K:Frag} (I:Inv prog w b0 os0 l σ s) (X:K.In b0):K.In s.heap:=fun a o e=>I.stay _ _ (X a o e)
theorem UU (I:Inv prog w b0 os0 l σ s) {a C d:Addr} {kvs:List (V×V)} (ha:σ.get a=some (.inst C d)) (hd:σ.get d=some (.dict kvs)) {G:Prop}
  (k:∀ ox od ps,s.heap.get? a=some ox→ox.dict=some d→InstAt s.heap a ox C (some od)→s.heap.get? d=some od→s.heap.DictOf (kB prog w) d ps→KvR s.heap kvs ps→G):G :=
 x23 (I.own _ _ ha) fun dt sl h1 h2 z9 z9=>x11 (I.own _ _ hd) fun ps hdd r=>x35 hdd fun o es ep ho z9 z9 z9 z9 z9=>k _ o ps h1 rfl ⟨h1,rfl,h2,ho⟩ ho hdd r
theorem k3U (I:Inv prog w b0 os0 l σ s) {C:Addr} {name:List Nat} {x:V} {u:Value} {Q:QV} (rx:VR s.heap x u) (q:wA C name x σ Q) {G:Prop}
  (k:∀ a ox od v v',u=.ref a→InstAt s.heap a ox C (some od)→lookIn (ke name) od=some (some v')→VR s.heap v v'→Q v σ→G):G :=
 zW q fun a d kvs ex ha hd q=>su q fun v hv q=>UU I ha hd fun ox od ps h1 h2 J h3 h4 r=>x11 (JP r hv) fun v' z rv =>
  k a ox od v v' (by rw[ex] at rx;exact rx) J (by rw[uY h4 h3,z]) rv q
theorem WU {K:Frag} (X:K.In b0) (I:Inv prog w b0 os0 l σ s) {C:Addr} {name:List Nat} {x:V} {u:Value} {Q:QV} {expr:Bool} (ck:yb K C (ke name)=true) (rx:VR s.heap x u) (q:wA C name x σ Q) :
  wpAny (model prog w) A (getAttr u (ke name) expr) (PV prog w b0 os0 l σ s Q) E s :=
 k3U I rx q fun a ox od v v' e J hl rv q=>b3 ck fun c1 c2 c3=>hs c3 fun attr hf c3=>by
  refine er e ?_;exact get_value (I.KIn X) J (plainGet_of c1).1 (findObj_own c2 hf c3 hl) rv.handed (PV.same I rv q)
theorem Pairs.append {K:Type} [DecidableEq K] {knd:KeyKind prog w K} {es es':List DictEntry} {ps ps':List (K×Value)} (P:Pairs knd es ps) (P':Pairs knd es' ps'):Pairs knd (es++es') (ps++ps'):=by
 induction P with
 | nil=>exact P'
 | cons a b c ih=>exact .cons a b ih
theorem k1r {d:Addr} {ps:List (Key×Value)} {n:List Nat} {t:Tok} {v:Value} {o:Obj} (hd:h.DictOf (kB prog w) d ps) (ho:h.get? d=some o) :
  ∃ es ep,(Obj.putName (ke n) (PyData.keyHash w.params (ke n)) (.str (ke n) t) v o)={ cls:=.type "dict",data:=.dict es ep }∧es.size≤ps.length+1 ∧
   KeysOf (kB prog w) es∧Pairs (kB prog w) es.toList (stored ps (.str n) v):=by
 refine x35 hd ?_;clear hd;intro o' es ep ho' hx hdt hk P nd
 rw[ho] at ho';injection ho' with ho';subst ho'
 obtain ⟨c,dd,dt,sl⟩:=o
 refine x02 hx ?_;clear hx;intro x1 x2 x3
 dsimp only at x1 x2 x3 hdt
 subst x1 x2 x3 hdt
 refine er Obj.putName_eq ?_
 unfold Obj.putNameByArray
 have ef:(fun x:DictEntry=>x.key.isStr (ke n))=fun e=>(kB prog w).is (.str n) e.key:=by funext x;exact (Qr n x.key).symm
 have efi:es.findIdx? (fun x=>x.key.isStr (ke n))=es.toList.findIdx? fun e=>(kB prog w).is (.str n) e.key:=by
  refine er ef ?_;obtain ⟨es⟩:=es;exact List.findIdx?_toArray _ _
 have hp:=P.findIdx (.str n)
 dsimp only
 refine er efi ?_
 have hl:es.size=ps.length:=by refine er (Eq.symm Array.length_toList) ?_;exact P.length
 cases hi:es.toList.findIdx? (fun e=>(kB prog w).is (.str n) e.key) with
 | some i =>
  refine ⟨_,_,rfl,by simp;lia,?_,?_⟩
  ·intro e he
   obtain ⟨j,hj,rfl⟩:=Array.mem_iff_getElem.mp he
   simp only[Array.size_modify] at hj
   refine er (Array.getElem_modify _) ?_
   split
   ·refine x11 (hk es[j] (Array.getElem_mem hj)) fun k a b=>?_;exact ⟨k,a,b⟩
   ·exact hk _ (Array.getElem_mem hj)
  ·have:ps.any (fun kv=>kv.1=.str n)=true:=by
    rw[hi] at hp
    refine x11 (List.findIdx?_eq_some_iff_getElem.mp hp.symm) fun hlt h1 z9=>?_
    exact List.any_eq_true.mpr ⟨_,List.getElem_mem hlt,h1⟩
   unfold stored
   rw[if_pos this];refine er Array.toList_modify ?_
   exact P.modify nd hi v
 | none =>
  refine ⟨_,_,rfl,by simp;lia,?_,?_⟩
  ·intro e he
   rcases Array.mem_push.mp he with he | rfl
   ·exact hk _ he
   ·exact ⟨.str n,by rw[Qr];simp[Value.isStr],rfl⟩
  ·have:ps.any (fun kv=>kv.1=.str n)=false:=by
    rw[hi] at hp
    rw[Bool.eq_false_iff]
    intro hany
    refine x11 (List.any_eq_true.mp hany) fun kv hm h1=>?_
    have:=List.findIdx?_eq_none_iff.mp hp.symm kv hm
    rw[h1] at this;injection this
   unfold stored
   rw[if_neg (by rw[this];decide)];refine er Array.toList_push ?_
   exact Pairs.append P (.cons (by refine er (Qr _ _) ?_;simp[Value.isStr]) rfl .nil)
theorem uM {ps:List (Key×Value)} {k:Key} {v:Value} (nd:(ps.map (·.1)).Nodup):((stored ps k v).map (·.1)).Nodup:=by
 unfold stored
 split
 ·have:(ps.map fun kv=>if kv.1=k then (kv.1,v) else kv).map (·.1)=ps.map (·.1):=by
   refine er List.map_map ?_;congr 1;funext kv;simp only[Function.comp];split <;> rfl
  refine er this ?_;exact nd
 ·rename_i hn
  refine er List.map_append (er List.map_singleton ?_)
  refine List.nodup_append.mpr ⟨nd,by simp,?_⟩
  intro a ha b hb
  simp at hb;subst hb
  intro e;subst e
  refine x11 (List.mem_map.mp ha) fun kv hm e=>?_
  exact hn (List.any_eq_true.mpr ⟨kv,hm,by simpa using e⟩)
end
section
variable {prog:Program} {w:World} {b0:Heap} {os0:OsState} {l:List Env} {σ σ' σ₁ σ₂:Sto} {s s' s₁ s₂:Shared} {h h':Heap} {A:Around} {E:Value→Shared→Prop}
variable (prog w b0 os0 l) in
def PU (σ:Sto) (s:Shared) (Q:Sto→Prop):Unit→Shared→Prop:=fun z9 s'=>∃ σ',kQ prog w b0 os0 l σ s σ' s'∧Q σ'
theorem wH (I:Inv prog w b0 os0 l σ s) {a:Addr} {kvs kvs':List (V×V)} {ps':List (Key×Value)} {s':Shared} (ha:σ.get a=some (.dict kvs)) (k:∀ b o,b≠a→s.heap.get? b=some o→s'.heap.get? b=some o)
  (hd:s'.heap.DictOf (kB prog w) a ps') (r:KvR s.heap kvs' ps') (g:s'.gens=s.gens:=by rfl) (o:s'.os=s.os:=by rfl):kQ prog w b0 os0 l σ s (σ.upd a (.dict kvs')) s':=by
 refine kQ.put I (jx ha) k ⟨ps',hd,r.keep fun b oo st e=>k _ _ (fun z=>?_) e⟩ g o
 subst z
 exact (I.own _ _ ha).notStill st e
theorem k9Z {s:Shared} {d:Addr} {od:Obj} {ps:List (Key×Value)} {name:List Nat} {v:Value} {R:Unit→Shared→Prop} (h3:s.heap.get? d=some od) (h4:s.heap.DictOf (kB prog w) d ps)
  (k:∀ h' es ep,(∀ b o,b≠d→s.heap.get? b=some o→h'.get? b=some o)→h'.get? d=some { cls:=.type "dict",data:=.dict es ep }→es.size≤ps.length+1→h'.DictOf (kB prog w) d (stored ps (.str name) v)→R () { s with heap:=h',toks:=s.toks+1 }) :
  wpAny (model prog w) A (nsSet d (ke name) v) R E s:=by
 unfold nsSet
 refine wpAny_bind (wpAny_bind (wpAny_askSetting (wpAny_pure (wpAny_bind (wpAny_mkText (wpAny_bind (wpAny_loadPart h3 ?_)))))))
 refine x23 (k1r (n:=name) (t:=s.toks) (v:=v) h4 h3) fun es ep e hsz hk P=>x35 h4 fun o' es₀ ep₀ ho' hx' hdt z9 P0 nd=>?_
 refine er (show od.data=.dict es₀ ep₀ from Option.some.inj (h3.symm.trans ho')▸hdt) ?_
 dsimp only
 refine er (aRefKeyMayBeTheName_at _ _) ?_;rw[show (!es₀.any (·.key.isStr (ke name))&&es₀.any (·.refKey))=false from (congrArg _ ((Array.any_toList ..).symm.trans (WT P0))).trans (Bool.and_false _)]
 refine wpAny_updatePart h3 ?_
 have D':(s.heap.update d (Obj.putName (ke name) (PyData.keyHash w.params (ke name)) (.str (ke name) s.toks) v)).get? d=some { cls:=.type "dict",data:=.dict es ep }:=by
  refine er (Heap.get?_update_self _ h3 (by rw[e];rfl)) ?_;refine er e ?_;rfl
 refine k _ es ep (fun b o z e=>?_) D' hsz ⟨_,es,ep,D',⟨rfl,rfl,rfl⟩,rfl,hk,P,uM nd⟩
 refine er (Heap.get?_update_other _ _ (Ne.symm z)) ?_;exact e
theorem WZ {K:Frag} (X:K.In b0) (I:Inv prog w b0 os0 l σ s) {C:Addr} {name:List Nat} {x y:V} {u v:Value} {Q:Sto→Prop} (ck:k3N K C (ke name)=true)
  (rx:VR s.heap x u) (ry:VR s.heap y v) (q:uH C name x y σ Q) :
  wpAny (model prog w) A (setAttr u (ke name) v) (PU prog w b0 os0 l σ s Q) E s :=
 zW q fun a d kvs ex ha hd q=>UU I ha hd fun ox od ps h1 h2 J h3 h4 r=>b4 ck fun c1 c2 c3 c4=>by
  obtain rfl:u=.ref a:=by rw[ex] at rx;exact rx
  have XX:=I.KIn X
  refine set_plain XX J (eq_of_beq c1) (osa_open (s:={ s with toks:=s.toks+1 }) XX J c2 (eq_of_beq c3) fun b=>?_)
  refine x11 (any_some c4) fun cd hc hd'=>?_
  obtain ⟨hx,hcl,hn,-⟩:=J
  obtain ⟨oc,odi,oda,osl⟩:=ox
  obtain rfl:oc=_:=hcl
  obtain rfl:odi=_:=h2
  refine wpAny_bind (wpAny_pure (wpAny_bind (wpAny_bind (wpAny_loadPart hx (wpAny_bind ((looks_clsIn XX hc).at ?_))))))
  refine er hd' ?_
  refine wpAny_pure (a:=some d) (wpAny_bind (wpAny_pure (wpAny_bind (k9Z (s:={ s with toks:=s.toks+1 }) h3 h4 ?_))))
  intro h' es ep kk D' hsz hd'
  refine wpAny_bind (wpAny_lookBehind D' (pastItsLine_dict (es:=es) (n:=ep) ?_) (wpAny_pure ?_))
  ·have:=Js r
   have:=q.1
   refine er sizeLine_eq ?_;lia
  ·exact ⟨_,wH (s':={ s with heap:=h',toks:=s.toks+1+1 }) I hd kk hd' (YT r (DictOf.nodup h4) ry),q.2⟩
theorem ym (I:Inv prog w b0 os0 l σ s) {x i y:V} {u k v:Value} {Q:Sto→Prop} (rx:VR s.heap x u) (ri:VR s.heap i k) (ry:VR s.heap y v) (q:k1Z x i y σ Q) :
  wpAny (model prog w) A (setItem u k v) (PU prog w b0 os0 l σ s Q) E s :=
 su q fun a ea q=>inD q fun kvs ha q=>su q fun kk hk q=>x11 (I.own _ _ ha) fun ps hd r=>by
  refine er (Zr rx ea) ?_
  rw[i.key_eq hk] at ri
  refine wpAny_setItem_pairs (knd:=kB prog w) (kk.is_of ri) hd (fun h' hd' sb=>?_) (by refine er (Js r) (er sizeLine_eq ?_);have:=q.1;lia)
  exact ⟨_,wH (s':={ s with heap:=h',toks:=s.toks+1 }) I ha (fun b o z e=>(sb.2 b z).trans e) hd' (YT r (DictOf.nodup hd) ry),q.2⟩
end
theorem Qk:Slot "bytes" "find" "bytes.find" :=
 .of (owner := "bytes") (n := "find") (by rw[typeLookup_type,builtinLookup_eq_fast];kernel_rfl) (by decide +kernel) (by decide +kernel) (by decide +kernel)
  (by first | exact .inl (by decide +kernel) | exact .inr (by decide +kernel)) (by refine er (isSubtype_type _ _) ?_;kernel_rfl)
theorem zd:typeOf (.builtin "bytes.find")=pure (.type "method_descriptor"):=by show builtinType _=_;refine er builtinType_eq_fast ?_;kernel_rfl
theorem yH:entryFor table "bytes.find" = some Builtin.«bytes.find»:=entryFor_of_tree (by kernel_rfl)
theorem YJ (a b:Value):argsOk "bytes.find" ⟨[a,b],[]⟩:=by
 unfold argsOk;refine er (signature?_of (id := "bytes.find") (n:=['d','n','i','f']) (o:=['s','e','t','y','b']) (by kernel_rfl) FB.owner_bytes) ?_;kernel_rfl
theorem qW:Slot "bytes" "rfind" "bytes.rfind" :=
 .of (owner := "bytes") (n := "rfind") (by rw[typeLookup_type,builtinLookup_eq_fast];kernel_rfl) (by decide +kernel) (by decide +kernel) (by decide +kernel)
  (by first | exact .inl (by decide +kernel) | exact .inr (by decide +kernel)) (by refine er (isSubtype_type _ _) ?_;kernel_rfl)
theorem yA:typeOf (.builtin "bytes.rfind")=pure (.type "method_descriptor"):=by show builtinType _=_;refine er builtinType_eq_fast ?_;kernel_rfl
theorem WN:entryFor table "bytes.rfind" = some Builtin.«bytes.rfind»:=entryFor_of_tree (by kernel_rfl)
theorem yD (a b:Value):argsOk "bytes.rfind" ⟨[a,b],[]⟩:=by
 unfold argsOk;refine er (signature?_of (id := "bytes.rfind") (n:=['d','n','i','f','r']) (o:=['s','e','t','y','b']) (by kernel_rfl) FB.owner_bytes) ?_;kernel_rfl
theorem Qd:Slot "bytes" "split" "bytes.split" :=
 .of (owner := "bytes") (n := "split") (by rw[typeLookup_type,builtinLookup_eq_fast];kernel_rfl) (by decide +kernel) (by decide +kernel) (by decide +kernel)
  (by first | exact .inl (by decide +kernel) | exact .inr (by decide +kernel)) (by refine er (isSubtype_type _ _) ?_;kernel_rfl)
theorem yp:typeOf (.builtin "bytes.split")=pure (.type "method_descriptor"):=by show builtinType _=_;refine er builtinType_eq_fast ?_;kernel_rfl
theorem WR:entryFor table "bytes.split" = some Builtin.«bytes.split»:=entryFor_of_tree (by kernel_rfl)
theorem yo (a b:Value):argsOk "bytes.split" ⟨[a,b],[]⟩:=by
 unfold argsOk;refine er (signature?_of (id := "bytes.split") (n:=['t','i','l','p','s']) (o:=['s','e','t','y','b']) (by kernel_rfl) FB.owner_bytes) ?_;kernel_rfl
theorem Jf:Slot "bytes" "partition" "bytes.partition" :=
 .of (owner := "bytes") (n := "partition") (by rw[typeLookup_type,builtinLookup_eq_fast];kernel_rfl) (by decide +kernel) (by decide +kernel) (by decide +kernel)
  (by first | exact .inl (by decide +kernel) | exact .inr (by decide +kernel)) (by refine er (isSubtype_type _ _) ?_;kernel_rfl)
theorem QH:typeOf (.builtin "bytes.partition")=pure (.type "method_descriptor"):=by show builtinType _=_;refine er builtinType_eq_fast ?_;kernel_rfl
theorem Qf:entryFor table "bytes.partition" = some Builtin.«bytes.partition»:=entryFor_of_tree (by kernel_rfl)
theorem QE (a b:Value):argsOk "bytes.partition" ⟨[a,b],[]⟩:=by
 unfold argsOk;refine er (signature?_of (id := "bytes.partition") (n:=['n','o','i','t','i','t','r','a','p']) (o:=['s','e','t','y','b']) (by kernel_rfl) FB.owner_bytes) ?_;kernel_rfl
theorem Qj:Slot "bytes" "join" "bytes.join" :=
 .of (owner := "bytes") (n := "join") (by rw[typeLookup_type,builtinLookup_eq_fast];kernel_rfl) (by decide +kernel) (by decide +kernel) (by decide +kernel)
  (by first | exact .inl (by decide +kernel) | exact .inr (by decide +kernel)) (by refine er (isSubtype_type _ _) ?_;kernel_rfl)
theorem Yi:typeOf (.builtin "bytes.join")=pure (.type "method_descriptor"):=by show builtinType _=_;refine er builtinType_eq_fast ?_;kernel_rfl
theorem yw:entryFor table "bytes.join" = some Builtin.«bytes.join»:=entryFor_of_tree (by kernel_rfl)
theorem zm (a b:Value):argsOk "bytes.join" ⟨[a,b],[]⟩:=by
 unfold argsOk;refine er (signature?_of (id := "bytes.join") (n:=['n','i','o','j']) (o:=['s','e','t','y','b']) (by kernel_rfl) FB.owner_bytes) ?_;kernel_rfl
section
open Builtin
noncomputable def Occ {α:Type} (p xs:List α) (i:Nat):Prop:=i+p.length≤xs.length∧(xs.drop i).take p.length=p
theorem k6H {α:Type} {p xs:List α} (h:xs.take p.length=p):p.length≤xs.length:=by
 have:=congrArg List.length h
 rw[List.length_take] at this;lia
theorem Zh {α:Type} [DecidableEq α] (p:List α) (hp:p≠[]):∀ xs:List α,match KC p xs with
  | some k=>Occ p xs k∧∀ j,j<k→¬ Occ p xs j
  | none=>∀ j,¬ Occ p xs j
 | []=>by
  simp only[k40,k3r,hp,if_false]
  intro j ⟨h1,z9⟩
  have:p.length=0:=by simp only[List.length_nil] at h1;lia
  exact hp (List.eq_nil_of_length_eq_zero this)
 | c::r=>by
  have ih:=Zh p hp r
  simp only[k40,k3r]
  split
  ·rename_i k hk
   split at hk
   ·rename_i h
    injection hk with hk;subst hk
    exact ⟨⟨by have:=k6H h;simpa using this,by simpa using h⟩,fun j hj=>by lia⟩
   ·rename_i h
    cases hf:KC p r with
    | none=>rw[hf] at hk;injection hk
    | some k' =>
     rw[hf] at hk ih
     have hk:=Option.some.inj hk
     dsimp only at hk
     subst hk
     refine ⟨⟨by have:=ih.1.1;simp;lia,by simpa using ih.1.2⟩,fun j hj=>?_⟩
     cases j with
     | zero=>intro o;exact h (by simpa using o.2)
     | succ j=>intro o;exact ih.2 j (by lia) ⟨by have:=o.1;simp at this;lia,by simpa using o.2⟩
  ·rename_i hk
   split at hk
   ·injection hk
   ·rename_i h
    cases hf:KC p r with
    | some k'=>rw[hf] at hk;injection hk
    | none =>
     rw[hf] at ih
     intro j
     cases j with
     | zero=>intro o;exact h (by simpa using o.2)
     | succ j=>intro o;exact ih j ⟨by have:=o.1;simp at this;lia,by simpa using o.2⟩
theorem yM {α:Type} [DecidableEq α] {p xs:List α} (hp:p≠[]) {r:Option Nat} (h:match r with
  | some k=>Occ p xs k∧∀ j,j<k→¬ Occ p xs j
  | none=>∀ j,¬ Occ p xs j):KC p xs=r:=by
 have z:=Zh p hp xs
 cases r with
 | none =>
  cases f:KC p xs with
  | none=>rfl
  | some k=>rw[f] at z;exact (h k z.1).elim
 | some k =>
  cases f:KC p xs with
  | none=>rw[f] at z;exact (z k h.1).elim
  | some k' =>
   rw[f] at z
   rcases Nat.lt_trichotomy k k' with q | q | q
   ·exact (z.2 k q h.1).elim
   ·exact er q rfl
   ·exact (h.2 k' q z.1).elim
theorem WG (b p:List UInt8) (i:Nat):(b.toArray.extract i (i+p.toArray.size)==p.toArray)=decide ((b.drop i).take p.length=p):=by
 rw[Bool.eq_iff_iff,beq_iff_eq,decide_eq_true_eq]
 simp[List.extract_eq_drop_take]
theorem k0M {b p:List UInt8} (hp:p≠[]) (i:Nat):Occ p b i↔(b.drop i).take p.length=p:=by
 refine ⟨fun h=>h.2,fun h=>⟨?_,h⟩⟩
 have e:=congrArg List.length h
 rw[List.length_take,List.length_drop] at e
 have h1:0<p.length:=List.length_pos_iff.mpr hp
 have h2:p.length≤b.length-i:=Nat.le_trans (Nat.le_of_eq e.symm) (Nat.min_le_right _ _)
 have h3:=Nat.add_le_of_le_sub (Nat.le_of_lt (Nat.lt_of_sub_pos (Nat.lt_of_lt_of_le h1 h2))) h2
 first | exact h3 | (rw[Nat.add_comm];exact h3)
theorem k2u (b p:List UInt8) (hp:p≠[]):Bytes.find? b.toArray p.toArray 0 b.toArray.size=KC p b:=by
 symm
 apply yM hp
 unfold Bytes.find?
 simp only[Nat.zero_add,Nat.add_zero,List.map_id']
 have hm:(fun i=>b.toArray.extract i (i+p.toArray.size)==p.toArray)=fun i=>decide ((b.drop i).take p.length=p):=by funext i;exact WG b p i
 refine er hm ?_
 have hm2:((List.range (b.toArray.size+1-p.toArray.size)).map fun x=>x+0)=List.range (b.length+1-p.length):=by simp
 try rw[hm2]
 cases f:List.find? (fun i=>decide (List.take p.length (List.drop i b)=p)) (List.range (b.length+1-p.length)) with
 | some k =>
  refine x02 (List.find?_range_eq_some.mp f) fun h1 h2 h3=>?_
  simp at h1 h2
  refine ⟨(k0M hp k).mpr h1,fun j hj=>?_⟩
  have:=h3 j hj
  intro o
  simp at this
  exact this ((k0M hp j).mp o)
 | none =>
  intro j o
  have h1:=List.find?_eq_none.mp f
  have:=h1 j (by rw[List.mem_range];have:=o.1;omega)
  simp at this
  exact this ((k0M hp j).mp o)
theorem k3W (q:Nat→Bool):∀ n:Nat,match (List.range n).reverse.find? q with
  | some i=>i<n∧q i=true∧∀ j,i<j→j<n→q j=false
  | none=>∀ j,j<n→q j=false
 | 0=>by simp
 | n+1=>by
  have ih:=k3W q n
  refine er List.range_succ (er List.reverse_append (er List.reverse_singleton (er List.singleton_append (er (List.find?_cons) ?_))))
  cases h:q n with
  | true=>exact ⟨by lia,h,fun j a b=>by lia⟩
  | false =>
   dsimp only
   cases f:(List.range n).reverse.find? q with
   | some i =>
    rw[f] at ih
    refine ⟨by lia,ih.2.1,fun j a b=>?_⟩
    rcases Nat.lt_or_ge j n with z | z
    ·exact ih.2.2 j a z
    ·have:j=n:=by lia
     subst this;exact h
   | none =>
    rw[f] at ih
    intro j b
    rcases Nat.lt_or_ge j n with z | z
    ·exact ih j z
    ·have:j=n:=by lia
     subst this;exact h
theorem YG {α:Type} [DecidableEq α] (c:α):∀ xs:List α,match jz c xs with
  | some k=>xs[k]?=some c∧∀ j,k<j→xs[j]?≠some c
  | none=>∀ j:Nat,xs[j]?≠some c
 | []=>by simp[k2j,k1O]
 | d::r=>by
  have ih:=YG c r
  simp only[k2j,k1O]
  cases f:jz c r with
  | some k =>
   rw[f] at ih
   refine ⟨by simpa using ih.1,fun j hj=>?_⟩
   cases j with
   | zero=>lia
   | succ j=>simpa using ih.2 j (by lia)
  | none =>
   rw[f] at ih
   dsimp only
   split
   ·rename_i h
    split at h
    ·rename_i e
     injection h with h;subst h
     subst e
     refine ⟨by simp,fun j hj=>?_⟩
     cases j with
     | zero=>lia
     | succ j=>simpa using ih j
    ·injection h
   ·rename_i h
    split at h
    ·injection h
    ·rename_i e
     intro j
     cases j with
     | zero=>simpa using e
     | succ j=>simpa using ih j
theorem k5Z {α:Type} [DecidableEq α] {b:List α} {c:α} {i:Nat}:(b.drop i).take 1=[c]↔b[i]?=some c:=by
 refine er List.take_one (er (List.head?_drop) ?_)
 cases b[i]? <;> simp
theorem k5k (b:List UInt8) (c:UInt8):Bytes.rfind? b.toArray [c].toArray 0 b.toArray.size=jz c b:=by
 unfold Bytes.rfind?
 have hm:(fun i=>b.toArray.extract i (i+[c].toArray.size)==[c].toArray)=fun i=>decide (b[i]?=some c):=by
  funext i;rw[WG]
  rw[Bool.eq_iff_iff,decide_eq_true_eq,decide_eq_true_eq];exact k5Z
 refine er hm ?_
 have hm2:((List.range (b.toArray.size+1-(0+[c].toArray.size))).map fun x=>x+0)=List.range b.length:=by simp
 refine er hm2 ?_
 have z:=k3W (fun i=>decide (b[i]?=some c)) b.length
 have y:=YG c b
 cases f:(List.range b.length).reverse.find? (fun i=>decide (b[i]?=some c)) with
 | none =>
  rw[f] at z
  cases g:jz c b with
  | none=>rfl
  | some k =>
   rw[g] at y
   have hk:k<b.length:=by
    rcases Nat.lt_or_ge k b.length with q | q
    ·exact q
    ·have:=y.1;rw[List.getElem?_eq_none q] at this;injection this
   have:=z k hk
   simp[y.1] at this
 | some i =>
  rw[f] at z
  refine x02 z ?_;clear z;intro z1 z2 z3
  have z2:b[i]?=some c:=by simpa using z2
  cases g:jz c b with
  | none=>rw[g] at y;exact (y i z2).elim
  | some k =>
   rw[g] at y
   have hk:k<b.length:=by
    rcases Nat.lt_or_ge k b.length with q | q
    ·exact q
    ·have:=y.1;rw[List.getElem?_eq_none q] at this;injection this
   rcases Nat.lt_trichotomy i k with q | q | q
   ·have:=z3 k q hk;simp[y.1] at this
   ·exact er q rfl
   ·exact (y.2 i q z2).elim
noncomputable def idx {α:Type} [DecidableEq α] (c:α):Nat→List α→List Nat
 | _,[]=>[]
 | k,d::r=>if d=c then k::idx c (k+1) r else idx c (k+1) r
theorem k73 {α:Type} [DecidableEq α] (c:α) (k:Nat):idx c k []=[]:=rfl
theorem k6a {α:Type} [DecidableEq α] (c:α) (k:Nat) (d:α) (r:List α):idx c k (d::r)=if d=c then k::idx c (k+1) r else idx c (k+1) r:=rfl
theorem ZY (b:List UInt8) (c:UInt8):∀ (m k:Nat) (acc:List Nat) (f:Nat),k+m=b.length→f≤k →
  ((List.range' k m).foldl (fun (acc:List Nat×Nat) i=>if (decide (i≥acc.2)&&b.toArray.extract i (i+[c].toArray.size)==[c].toArray)=true then (i::acc.1,i+[c].toArray.size) else acc) (acc,f)).1.reverse
   = acc.reverse++idx c k (b.drop k)
 | 0,k,acc,f,hk,hf=>by
  have:b.drop k=[]:=List.drop_eq_nil_of_le (by lia)
  simp[this,k73,k6a]
 | m+1,k,acc,f,hk,hf=>by
  have hlt:k<b.length:=by lia
  refine er List.range'_succ ?_;rw[List.foldl_cons]
  have e:(b.toArray.extract k (k+[c].toArray.size)==[c].toArray)=decide (b[k]=c):=by
   rw[WG,Bool.eq_iff_iff,decide_eq_true_eq,decide_eq_true_eq,show [c].length=1 from rfl,k5Z,List.getElem?_eq_getElem hlt];simp
  refine er e ?_
  have hd:b.drop k=b[k]::b.drop (k+1):=List.drop_eq_getElem_cons hlt
  refine er hd ?_
  simp only[k73,k6a]
  by_cases z:b[k]=c
  ·simp only[z,decide_true,hf,ge_iff_le,Bool.and_self,if_true]
   have:=ZY b c m (k+1) (k::acc) (k+[c].toArray.size) (by lia) (by simp)
   refine er this ?_;simp
  ·simp only[z,decide_false,Bool.and_false,Bool.false_eq_true,if_false]
   exact ZY b c m (k+1) acc f (by lia) (by lia)
theorem k79 (b:List UInt8) (c:UInt8):Bytes.occurrences b.toArray [c].toArray 0 b.toArray.size=idx c 0 b:=by
 unfold Bytes.occurrences
 have hm2:((List.range (b.toArray.size+1-(0+[c].toArray.size))).map fun x=>x+0)=List.range' 0 b.length:=by simp[List.range_eq_range']
 have:=ZY b c b.length 0 [] 0 (by lia) (by lia)
 simp only[List.reverse_nil,List.nil_append,List.drop_zero] at this
 exact er (Eq.symm this) (er (Eq.symm hm2) rfl)
theorem Zg {α:Type} [DecidableEq α] (c:α):∀ (k:Nat) (xs:List α),(idx c k xs).length≤xs.length
 | _,[]=>Nat.le_refl _
 | k,d::r=>by
  simp only[k73,k6a];split <;> (have:=Zg c (k+1) r;simp;lia)
theorem k4e {α:Type} [DecidableEq α] (c:α) (ys:List α):kz c ys≠[]:=by
 induction ys with
 | nil=>simp[qx,Jn]
 | cons y ys ih =>
  simp only[qx,Jn]
  split
  ·simp
  ·split <;> simp
noncomputable def yh {α:Type} (b:List α):Nat→List Nat→List (List α)
 | last,[]=>[b.drop last]
 | last,p::r=>(b.drop last).take (p-last)::yh b (p+1) r
theorem k18 {α:Type} (b:List α) (k:Nat):yh b k []=[b.drop k]:=rfl
theorem k17 {α:Type} (b:List α) (k p:Nat) (r:List Nat):yh b k (p::r)=(b.drop k).take (p-k)::yh b (p+1) r:=rfl
noncomputable def K1w {α:Type} (w:List α):List (List α)→List (List α)
 | []=>[]
 | p::q=>(w++p)::q
theorem ZK {α:Type}:∀ l:List (List α),K1w [] l=l
 | []=>rfl
 | _::_=>rfl
theorem qN {α:Type} [DecidableEq α] {b:List α} {c:α}:∀ {r pre w:List α},b=pre++w++r→yh b pre.length (idx c (pre++w).length r)=K1w w (kz c r)
 | [],pre,w,e=>by
  show [b.drop pre.length]=[w++[]]
  rw[e,List.append_assoc,List.drop_left]
 | d::r,pre,w,e=>by
  have s1:kz c (d::r)=if d=c then []::kz c r else K1w [d] (kz c r):=by
   rw[Jn]
   refine congrArg (ite _ _) ?_
   cases h:kz c r with
   | nil=>exact (k4e c _ h).elim
   | cons=>rfl
  rw[k6a,s1]
  by_cases z:d=c
  ·rw[if_pos z,if_pos z]
   have ih:=qN (b:=b) (c:=c) (r:=r) (pre:=pre++w++[d]) (w:=[]) (by refine er e ?_;rw[List.append_nil,List.append_assoc (pre++w)];rfl)
   rw[List.append_nil,List.length_append (as:=pre++w),ZK] at ih
   have hw:(b.drop pre.length).take ((pre++w).length-pre.length)=w++[]:=by rw[e,List.append_assoc,List.drop_left,List.length_append,Nat.add_sub_cancel_left,List.take_left,List.append_nil]
   exact (congrArg (·::_) hw).trans (congrArg ((w++[])::·) ih)
  ·rw[if_neg z,if_neg z]
   have ih:=qN (b:=b) (c:=c) (r:=r) (pre:=pre) (w:=w++[d]) (by refine er e ?_;refine er (List.append_assoc _ _ _) ?_;refine er (List.append_assoc _ _ _) ?_;refine er (List.append_assoc _ _ _) ?_;rfl)
   rw[← List.append_assoc,List.length_append (as:=pre++w)] at ih
   refine Eq.trans ih ?_
   cases kz c r with
   | nil=>rfl
   | cons p q=>exact congrArg (·::q) (List.append_assoc w [d] p)
theorem zN (b:List UInt8):∀ (places:List Nat) (acc:Array (Array UInt8)) (last:Nat),
  (match places.foldl (fun (x:Array (Array UInt8)×Nat) p=>(x.1.push (b.toArray.extract x.2 p),p+1)) (acc,last) with
   | (parts,last)=>(parts.push (b.toArray.extract last b.toArray.size)).toList)=acc.toList++(yh b last places).map (·.toArray)
 | [],acc,last=>by simp[k18,k17,List.extract_eq_drop_take];exact List.take_of_length_le (by simp)
 | p::r,acc,last=>by
  rw[List.foldl_cons,zN b r]
  simp[k18,k17,List.extract_eq_drop_take]
theorem k4P (b:List UInt8) (c:UInt8):Bytes.between b.toArray [c].toArray.size (idx c 0 b)=(kz c b).map (·.toArray):=by
 unfold Bytes.between
 have h1:=zN b (idx c 0 b) #[] 0
 have h3:yh b 0 (idx c 0 b)=kz c b:=(qN (pre:=[]) (w:=[]) rfl).trans (ZK _)
 rw[h3] at h1
 simpa using h1
theorem k26 {α:Type} [DecidableEq α] {b:List α} {c:α} (h:idx c 0 b=[]):kz c b=[b]:=by
 have h3:yh b 0 (idx c 0 b)=kz c b:=(qN (pre:=[]) (w:=[]) rfl).trans (ZK _)
 rw[h] at h3
 exact h3.symm
open Builtin.Str in
theorem k5n (x:List Nat) (c:Nat) (i:Nat):StrLaws.At (ke x) (ke [c]) (ke x).length i↔Occ [c] x i:=by
 have h:StrLaws.At (ke x) (ke [c]) (ke x).length i↔(ke x).cps.toList[i]?=some c:=StrLaws.subAt_one (ke x) c i
 rw[h]
 have e:(ke x).cps.toList=x:=by simp[ke]
 rw[e]
 constructor
 ·intro q
  have hl:i<x.length:=by
   rcases Nat.lt_or_ge i x.length with z | z
   ·exact z
   ·rw[List.getElem?_eq_none z] at q;injection q
  exact ⟨by simp only[List.length_singleton];lia,k5Z.mpr q⟩
 ·intro q;exact k5Z.mp q.2
theorem k6S (x:List Nat) (c:Nat):Txt.find (ke x) (ke [c])=k12 (KC [c] x):=by
 unfold Txt.find
 rcases StrLaws.occ_head (ke x) (ke [c]) 1 (Nat.le_refl 1) with ⟨h0,hn⟩ | ⟨i,r,h0,h1,h2⟩
 ·refine er h0 (er (yM (r:=none) (by simp) (fun j o=>hn j ((k5n x c j).mpr o))) ?_);rfl
 ·refine er h0 (er (yM (r:=some i) (by simp) ⟨(k5n x c i).mp h1,fun j hj o=>h2 j hj ((k5n x c j).mpr o)⟩) ?_);rfl
theorem ZA (sep:List Nat):∀ ts:List (List Nat),PySem.Str.join (ke sep) (ts.map ke)=ke (kR sep ts)
 | []=>rfl
 | [x]=>rfl
 | x::y::r=>by
  have ih:=ZA sep (y::r)
  simp only[List.map_cons] at ih ⊢
  show ke x++ke sep++PySem.Str.join (ke sep) (ke y::r.map ke)=_
  refine er ih ?_
  show PySem.Str.append (PySem.Str.append _ _) _=_
  simp[PySem.Str.append,ke,wp,wv,wh]
theorem k5Y (sep:List Nat) (ts:List (List Nat)):Txt.join (ke sep) (ts.map ke)=ke (kR sep ts):=by
 unfold Txt.join
 refine er (StrLaws.glued_eq_join _ _) ?_;refine er (ZA _ _) ?_;rfl
theorem Ye {α:Type} [DecidableEq α] (c:α):∀ ps:List (List α),ps≠[]→(∀ p∈ps,c∉p)→kz c (kR [c] ps)=ps
 | [],h,_=>(h rfl).elim
 | [p],_,hf=>by
  simp only[wp,wv,wh]
  have:=hf p (by simp)
  clear hf
  induction p with
  | nil=>rfl
  | cons d r ih =>
   simp only[List.mem_cons,not_or] at this
   simp only[qx,Jn]
   exact er (if_neg (fun e=>this.1 e.symm)) (er (ih (by simp) this.2) rfl)
 | p::y::t,_,hf=>by
  have ih:=Ye c (y::t) (by simp) fun q hq=>hf q (by simp[hq])
  simp only[wp,wv,wh]
  have hp:=hf p (by simp)
  clear hf
  induction p with
  | nil=>simp only[List.nil_append,List.singleton_append,qx,Jn,if_true];exact er ih rfl
  | cons d r ih2 =>
   simp only[List.mem_cons,not_or] at hp
   have:=ih2 (by simp) hp.2
   simp only[List.cons_append,qx,Jn]
   refine er (if_neg (fun e=>hp.1 e.symm)) ?_
   simp only[List.append_assoc] at this ⊢
   exact er this rfl
theorem k9Q (l:List PySem.Str):l=(l.map (·.cps.toList)).map ke:=by
 rw[List.map_map]
 conv=>lhs;rw[← List.map_id l]
 congr 1
theorem k4A (x:List Nat) (c:Nat):Txt.split (ke x) (ke [c])=(kz c x).map ke:=by
 have h1:=StrLaws.join_split (ke x) (ke [c])
 have h2:∀ p∈Txt.split (ke x) (ke [c]),c∉p.cps.toList:=StrLaws.split_free (ke x) c
 have h3:Txt.split (ke x) (ke [c])≠[]:=by
  unfold Txt.split
  split
  ·simp
  ·split
   ·simp
   ·refine er (StrLaws.partsBetween_eq _ _ _) ?_
    refine x20 (StrLaws.partsFrom_ne (ke x) (ke [c]).length 0 (Builtin.Str.occurrences (ke x) (ke [c]) 0 (ke x).length ((ke x).length+1))) fun p r e=>?_
    refine er e ?_;simp
 generalize Txt.split (ke x) (ke [c])=parts at h1 h2 h3
 rw[k9Q parts] at h1 ⊢
 rw[ZA] at h1
 have h4:kR [c] (parts.map (·.cps.toList))=x:=by
  have:=congrArg (fun z=>z.cps.toList) h1
  simpa [ke] using this
 refine er (Eq.symm h4) ?_;refine er (Ye c _ (by simpa using h3) (by simpa using h2)) ?_;rfl
theorem k0R:∀ c:Nat,Kb c=true→PySem.Unicode.isSpace c=jg c:=by
 have h:∀ c:Fin 127,Kb c.val=true→PySem.Unicode.isSpace c.val=jg c.val:=by decide +kernel
 intro c hc
 have:c<127:=by
  simp only[Kb,Bool.or_eq_true,beq_iff_eq,Bool.and_eq_true,decide_eq_true_eq] at hc
  lia
 exact h ⟨c,this⟩ hc
theorem k85 (x:List Nat) (i j:Nat):Builtin.Str.strSub (ke x) i j=ke ((x.drop i).take (j-i)):=by
 have:=StrLaws.strSub_toList (ke x) i j
 apply PySem.Str.ext'
 apply Array.toList_inj.mp
 exact er this rfl
noncomputable def spF (x:List Nat) (p:Nat×Nat):List Nat:=(x.drop p.1).take (p.2-p.1)
theorem k4k {x pre w r:List Nat} (e:x=pre++w++r):spF x (pre.length,(pre++w).length)=w:=by
 unfold spF
 rw[e,List.append_assoc,List.drop_left,List.length_append,Nat.add_sub_cancel_left,List.take_left]
open PySem.StrLaws in
theorem swB {x:PySem.Str} {limit i:Nat} {ws:Array (Nat×Nat)} {st:Option Nat} {b:Bool} (hn:(ws.size==limit)=false) (hb:PySem.Unicode.isSpace (x.cps.getD i 0)=b) :
  swBody x limit i (none,ws,st)=pure (.yield (none,(if b then (match st with | some a=>ws.push (a,i) | none=>ws) else ws),if b then none else (match st with | some a=>some a | none=>some i))):=by
 unfold swBody
 refine er (if_neg (by refine er hn ?_;exact Bool.false_ne_true)) (er hb ?_)
 cases st <;> cases b <;> rfl
theorem K0f {x p r:List Nat} {c:Nat} (hx:∀ c∈x,Kb c=true) (e:x=p++c::r):PySem.Unicode.isSpace ((ke x).cps.getD p.length 0)=jg c:=by
 have:(ke x).cps.getD p.length 0=c:=by refine er e ?_;simp[ke]
 refine er this ?_
 exact k0R c (hx c (by refine er e ?_;exact List.mem_append_right _ (List.mem_cons_self ..)))
theorem k7U {x p r:List Nat} {c limit k:Nat} (hl:x.length<limit) (e:x=p++c::r) (h:k≤p.length):(k==limit)=false:=by
 rw[e,List.length_append] at hl
 exact beq_false_of_ne (Nat.ne_of_lt (Nat.lt_of_le_of_lt (Nat.le_trans h (Nat.le_add_right ..)) hl))
open PySem.StrLaws in
theorem k1u (x:List Nat) (hx:∀ c∈x,Kb c=true) (limit:Nat) (hl:x.length<limit):∀ r:List Nat,
  (∀ (pre:List Nat) (ws:Array (Nat×Nat)),x=pre++r→ws.size≤pre.length→(swEnd (ke x) (forIn (List.range' pre.length r.length) ((none,ws,none):SwSt) (swBody (ke x) limit)).run).map (spF x)=ws.toList.map (spF x)++Ko [] r) ∧
  (∀ (pre w:List Nat) (ws:Array (Nat×Nat)),w≠[]→x=pre++w++r→ws.size≤pre.length→(swEnd (ke x) (forIn (List.range' (pre++w).length r.length) ((none,ws,some pre.length):SwSt) (swBody (ke x) limit)).run).map (spF x)=ws.toList.map (spF x)++Ko w r)
 | []=>⟨fun pre ws z9 z9=>(List.append_nil _).symm,fun pre w ws hw e z9=>by
   have e2:x.length=(pre++w).length:=by refine er e ?_;refine er (List.append_nil _) ?_;rfl
   show ((ws.push (pre.length,x.length)).toList).map _=_
   refine er Array.toList_push ?_;refine er List.map_append ?_;refine er (uk _) ?_;rw[if_neg hw,e2]
   exact congrArg (fun z=>ws.toList.map (spF x)++[z]) (k4k e)⟩
 | c::r=>by
  have ih:=k1u x hx limit hl r
  refine ⟨fun pre ws e h=>?_,fun pre w ws hw e h=>?_⟩
  ·refine er List.length_cons ?_;rw[List.range'_succ,List.forIn_cons,swB (k7U hl e h) (K0f hx e),Jj]
   cases hc:jg c with
   | true =>
    have:=ih.1 (pre++[c]) ws (by refine er e ?_;refine er (List.append_assoc _ _ _) ?_;rfl) (by rw[List.length_append];exact Nat.le_succ_of_le h)
    rw[List.length_append] at this
    exact this
   | false =>
    have:=ih.2 pre [c] ws (List.cons_ne_nil _ _) (by refine er e ?_;refine er (List.append_assoc _ _ _) ?_;rfl) h
    rw[List.length_append] at this
    exact this
  ·have h':ws.size≤(pre++w).length:=by refine er List.length_append ?_;exact Nat.le_trans h (Nat.le_add_right ..)
   refine er List.length_cons ?_;rw[List.range'_succ,List.forIn_cons,swB (k7U hl e h') (K0f hx e),Jj,if_neg hw]
   cases hc:jg c with
   | true =>
    have:=ih.1 (pre++w++[c]) (ws.push (pre.length,(pre++w).length)) (by refine er e ?_;rw[List.append_assoc (pre++w)];rfl) (by refine er (Array.size_push _) ?_;rw[List.length_append (as:=pre++w)];exact Nat.succ_le_succ h')
    rw[List.length_append (as:=pre++w),Array.toList_push,List.map_append,List.append_assoc] at this
    exact this.trans (congrArg (fun z=>ws.toList.map (spF x)++(z::Ko [] r)) (k4k e))
   | false =>
    have:=ih.2 pre (w++[c]) ws (fun z=>hw (List.append_eq_nil_iff.1 z).1) (by refine er e ?_;refine er (List.append_assoc _ _ _) ?_;refine er (List.append_assoc _ _ _) ?_;refine er (List.append_assoc _ _ _) ?_;rfl) h
    rw[← List.append_assoc,List.length_append (as:=pre++w)] at this
    exact this
theorem k5r (x:List Nat) (hx:∀ c∈x,Kb c=true):Txt.words (ke x)=(jd x).map ke:=by
 have h:=(k1u x hx ((ke x).length+1) (Nat.lt_succ_self _) x).1 [] #[] rfl (Nat.zero_le _)
 have h3:PySem.wordsOf (ke x)=(jd x).map ke:=by
  unfold PySem.wordsOf jd
  change _=Ko [] x at h
  refine er (StrLaws.sw_eq _ _) ?_;rw[← h];refine er List.map_map ?_
  exact List.map_congr_left fun p z9=>k85 x p.1 p.2
 unfold Txt.words
 split
 ·rename_i h
  refine er (Eq.symm h3) ?_
  unfold PySem.wordsOf
  refine er (eq_of_beq h) ?_
  simp[StrLaws.sub_whole]
 ·exact h3
end
section
open Builtin
theorem k2K (b:Array UInt8):Bytes.window b.size none none=(0,(b.size:Int)):=by
 have h:¬ ((b.size:Int)<0):=by lia
 have h2:(if (b.size:Int)<0 then max 0 ((b.size:Int)+b.size) else (b.size:Int))=b.size:=if_neg h
 show ((if (0:Int)<0 then max 0 ((0:Int)+b.size) else 0),min (b.size:Int) (if (b.size:Int)<0 then max 0 ((b.size:Int)+b.size) else (b.size:Int)))=_
 refine er h2 (er (if_neg (by decide)) ?_)
 simp
theorem yx {M:Model} {A:Around} {E:Value→Shared→Prop} {s:Shared} {name:String} {b p:Array UInt8} {t u:Tok} {Q:Array UInt8×Array UInt8×Option (Nat×Nat)→Shared→Prop}
  (h:Q (b,p,if (b.size:Int)<p.size then none else some (0,b.size)) s):wpAny M A (Bytes.searchArgs .bytes name ⟨[.bytes b t,.bytes p u],[]⟩) Q E s:=by
 unfold Bytes.searchArgs
 refine wpAny_bind (wpAny_of_eq (a:=(.bytes b t,[.bytes p u])) rfl ?_)
 refine wpAny_bind (wpAny_of_eq (a:=none) rfl ?_)
 refine wpAny_bind (wpAny_of_eq (a:=none) rfl ?_)
 show wpAny _ _ (Bytes.buffer? _ (.bytes p u) >>= _) _ _ _
 refine er KBy.buffer_eq ?_
 refine wpAny_bind (wpAny_pure ?_)
 refine wpAny_bind (wpAny_pure ?_)
 refine wpAny_bind (wpAny_of_eq (a:=b) rfl ?_)
 refine wpAny_pure ?_
 show Q (match Bytes.window b.size none none with | (lo,hi)=>(b,p,if hi-lo<p.size then none else some (lo.toNat,hi.toNat))) s
 refine er (k2K _) ?_
 simpa using h
theorem UR {M:Model} {A:Around} {E:Value→Shared→Prop} {s:Shared} {i:Int} {R:Result→Shared→Prop} (h:R (.ok (.ret (.int i s.toks))) { s with toks:=s.toks+1 }) :
  wpAny M A (retInt i) (fun fin s'=>∃ v,fin=.done (.ret v)∧R (.ok (.ret v)) s') E s:=wpAny_bind (wpAny_mkInt (wpAny_pure ⟨_,rfl,h⟩))
theorem ya (name:String) (b p:List UInt8) (t u:Tok) (fromRight:Bool) (r:Option Nat)
  (hr:(match (if (b.toArray.size:Int)<p.toArray.size then none else some (0,b.toArray.size):Option (Nat×Nat)).bind fun (lo,hi)=>if fromRight then Bytes.rfind? b.toArray p.toArray lo hi else Bytes.find? b.toArray p.toArray lo hi with | some i=>some i | none=>none)=r) :
  Meets (Bytes.searchM .bytes name fromRight false ⟨[.bytes b.toArray t,.bytes p.toArray u],[]⟩) (fun z9 R s=>R (.ok (.ret (.int (k12 r) s.toks))) { s with toks:=s.toks+1 }) :=
 .of_wp fun prog w A R s h=>by
  unfold Bytes.searchM
  refine wpAny_bind (yx ?_)
  dsimp only
  subst hr
  generalize Option.bind _ _=o at h
  cases o with
  | some i=>exact UR h
  | none=>exact wpAny_bind (wpAny_rule (UR h))
theorem yn (b p:List UInt8) (t u:Tok) (hp:p≠[]) :
  Meets (Builtin.«bytes.find» ⟨[.bytes b.toArray t,.bytes p.toArray u],[]⟩) (fun z9 R s=>R (.ok (.ret (.int (k12 (KC p b)) s.toks))) { s with toks:=s.toks+1 }):=by
 refine ya "find" b p t u false (KC p b) ?_
 by_cases h:(b.toArray.size:Int)<p.toArray.size
 ·refine er (if_pos h) ?_
  refine (yM hp (r:=none) fun j o=>?_).symm
  have:=o.1
  simp only[List.size_toArray] at h
  lia
 ·refine er (if_neg h) ?_
  simp only[Option.bind_some,Bool.false_eq_true,if_false]
  refine er (k2u b p hp) ?_;cases KC p b <;> rfl
theorem WE (b:List UInt8) (c:UInt8) (t u:Tok) :
  Meets (Builtin.«bytes.rfind» ⟨[.bytes b.toArray t,.bytes [c].toArray u],[]⟩) (fun z9 R s=>R (.ok (.ret (.int (k12 (jz c b)) s.toks))) { s with toks:=s.toks+1 }):=by
 refine ya "rfind" b [c] t u true (jz c b) ?_
 by_cases h:(b.toArray.size:Int)<[c].toArray.size
 ·refine er (if_pos h) ?_
  have:b=[]:=by
   simp only[List.size_toArray,List.length_singleton] at h
   exact List.eq_nil_of_length_eq_zero (by lia)
  subst this;rfl
 ·rw[if_neg h]
  simp only[Option.bind_some,if_true]
  refine er (k5k _ _) ?_;cases jz c b <;> rfl
theorem uX {M:Model} {A:Around} {E:Value→Shared→Prop} {s:Shared} {id:String} {b:Array UInt8} {t:Tok} {Q:Array UInt8→Shared→Prop} (h:Q b s) :
  wpAny M A (Bytes.bytesLike id (.bytes b t)) Q E s:=by
 unfold Bytes.bytesLike
 refine er KBy.buffer_eq ?_
 exact wpAny_bind (wpAny_pure (wpAny_pure h))
theorem uG {M:Model} {A:Around} {E:Value→Shared→Prop} {s:Shared} {b:Array UInt8} {Q:Value→Shared→Prop} (hz:b.size≤sizeLine) (h:∀ t k,Q (.bytes b t) { s with toks:=k }) :
  wpAny M A (Bytes.Kind.bytes.new b) Q E s:=by
 unfold Bytes.Kind.new
 exact wpAny_mkBytes (h _ _) hz
theorem Qx (b:List UInt8) (c:UInt8) (t u:Tok) (hz:b.length≤kt) :
  Meets (Builtin.«bytes.partition» ⟨[.bytes b.toArray t,.bytes [c].toArray u],[]⟩) (fun z9 R s=>∀ k t1 t2,R (.ok (.ret (.ref s.heap.objs.size)))
   { s with toks:=k,heap:=s.heap.push (Je (match KC [c] b with
    | some i=>[.bytes (b.take i).toArray t1,.bytes [c].toArray u,.bytes (b.drop (i+1)).toArray t2]
    | none=>[.bytes b.toArray t,.bytes #[] t1,.bytes #[] t1]) 0) }) :=
 .of_wp fun prog w A R s h=>by
  show wpAny _ _ (Bytes.partitionM .bytes "partition" false _) _ _ _
  unfold Bytes.partitionM
  refine wpAny_bind (wpAny_of_eq (a:=(.bytes b.toArray t,.bytes [c].toArray u)) rfl ?_)
  dsimp only
  refine wpAny_bind (wpAny_of_eq (a:=some [c].toArray) KBy.buffer_eq ?_)
  refine wpAny_ite_false (by simp) ?_
  refine wpAny_bind (wpAny_of_eq (a:=b.toArray) rfl ?_)
  have hb:=k2u b [c] (by simp)
  show wpAny _ _ (match Bytes.find? b.toArray [c].toArray 0 b.toArray.size with
   | some i=>_
   | none=>_) _ _ _
  refine er hb ?_
  cases hf:KC [c] b with
  | some i =>
   rw[hf] at h
   dsimp only at h ⊢
   refine wpAny_ite_true rfl ?_
   refine wpAny_bind (wpAny_pure ?_)
   refine wpAny_bind (uG (by refine er KB ?_;simp[List.extract_eq_drop_take];lia) fun t1 k1=>?_)
   refine wpAny_bind (uG (by refine er KB ?_;simp[List.extract_eq_drop_take];lia) fun t2 k2=>?_)
   refine wpAny_bind (wpAny_newTuple ?_ (by simp[sizeLine_eq]))
   refine wpAny_pure ⟨_,rfl,?_⟩
   have e1:b.toArray.extract 0 i=(b.take i).toArray:=by simp[List.extract_eq_drop_take]
   have e2:b.toArray.extract (i+[c].toArray.size) b.toArray.size=(b.drop (i+1)).toArray:=by
    simp[List.extract_eq_drop_take];exact er (List.take_of_length_le (by simp)) rfl
   refine er e1 ?_
   have:=h k2 t1 t2
   rw[← e2] at this
   exact this
  | none =>
   rw[hf] at h
   dsimp only at h ⊢
   refine wpAny_bind (wpAny_rule ?_)
   refine wpAny_ite_true rfl ?_
   refine wpAny_bind (wpAny_pure ?_)
   refine wpAny_bind (uG (by simp) fun t1 k1=>?_)
   refine wpAny_ite_true rfl ?_
   refine wpAny_bind (wpAny_pure ?_)
   refine wpAny_bind (wpAny_newTuple ?_ (by simp[sizeLine_eq]))
   exact wpAny_pure ⟨_,rfl,h k1 t1 t1⟩
theorem k5q {M:Model} {A:Around} {E:Value→Shared→Prop}:∀ {parts:List (List UInt8)} {s:Shared} {Q:List Value→Shared→Prop},(∀ p∈parts,p.length≤kt) →
  (∀ vs k,(∀ h,VRs h (parts.map .bytes) vs)→Q vs { s with toks:=k })→wpAny M A ((parts.map (·.toArray)).mapM Bytes.Kind.bytes.new) Q E s
 | [],s,Q,_,h=>by
  simp only[List.map_nil,List.mapM_nil]
  exact wpAny_pure (h [] s.toks fun z9=>.nil)
 | p::r,s,Q,hz,h=>by
  simp only[List.map_cons,List.mapM_cons]
  refine wpAny_bind (uG (by refine er KB ?_;simpa using hz p (by simp)) fun t k=>?_)
  refine wpAny_bind (k5q (s:={ s with toks:=k }) (fun q hq=>hz q (by simp[hq])) fun vs k' hv=>?_)
  exact wpAny_pure (h _ k' fun h'=>.cons (by first | exact rfl | exact ⟨_,rfl⟩) (hv h'))
set_option tactic.hygienic true in
theorem Zd {α:Type} [DecidableEq α] (c:α):∀ xs:List α,(∀ p∈kz c xs,p.length≤xs.length)∧(kz c xs).length≤xs.length+1
 | []=>by simp[qx,Jn]
 | d::r=>by
  have ih:=Zd c r
  simp only[qx,Jn]
  split
  ·refine ⟨fun p hp=>?_,by simp;lia⟩
   rcases List.mem_cons.mp hp with rfl | hp
   ·simp
   ·have:=ih.1 p hp;simp;lia
  ·split
   ·exact ⟨fun p hp=>by simp at hp;subst hp;simp,by simp⟩
   ·rename_i q t e
    rw[e] at ih
    refine ⟨fun p hp=>?_,by have:=ih.2;simp at this ⊢;lia⟩
    rcases List.mem_cons.mp hp with rfl | hp
    ·have:=ih.1 q (by simp);simp;lia
    ·have:=ih.1 p (by simp[hp]);simp;lia
theorem WO (b:List UInt8) (c:UInt8) (t u:Tok) (hz:b.length<kt) :
  Meets (Builtin.«bytes.split» ⟨[.bytes b.toArray t,.bytes [c].toArray u],[]⟩) (fun z9 R s=>∀ k vs,(∀ h,VRs h ((kz c b).map .bytes) vs)→R (.ok (.ret (.ref s.heap.objs.size)))
   { s with toks:=k,heap:=s.heap.push (KH vs 0) }) :=
 .of_wp fun prog w A R s h=>by
  show wpAny _ _ (Bytes.splitM .bytes "split" false _) _ _ _
  unfold Bytes.splitM
  dsimp only
  refine wpAny_bind (wpAny_of_eq (a:=[some (.bytes [c].toArray u),none]) rfl ?_)
  refine wpAny_bind (wpAny_pure ?_)
  refine wpAny_bind (wpAny_of_eq (a:=b.toArray) rfl ?_)
  dsimp only
  refine wpAny_bind (uX ?_)
  refine wpAny_ite_false (by simp) ?_
  have ho:(Bytes.occurrences b.toArray [c].toArray 0 b.toArray.size).take (if (-1:Int)<0 then b.toArray.size+1 else (-1:Int).toNat)=idx c 0 b:=by
   refine er (k79 _ _) ?_;rw[if_pos (by decide),List.take_of_length_le]
   have:=Zg c 0 b
   simp;lia
  show wpAny _ _ (if ((Bytes.occurrences b.toArray [c].toArray 0 b.toArray.size).take (if (-1:Int)<0 then b.toArray.size+1 else (-1:Int).toNat)).isEmpty=true then _ else _) _ _ _
  refine er ho ?_
  cases hi:(idx c 0 b).isEmpty with
  | true =>
   refine wpAny_ite_true rfl ?_
   have hi':idx c 0 b=[]:=List.isEmpty_iff.mp hi
   refine wpAny_bind (wpAny_rule ?_)
   refine wpAny_bind ?_
   show wpAny _ _ (Bytes.Kind.same .bytes (.bytes b.toArray t)) _ _ _
   unfold Bytes.Kind.same
   refine wpAny_ite_true rfl ?_
   refine wpAny_bind (wpAny_typeOf (typeIs_bytes _ _ _) ?_)
   refine wpAny_ite_true rfl ?_
   refine wpAny_pure ?_
   refine wpAny_bind (wpAny_newList ?_ (by simp[sizeLine_eq]))
   refine wpAny_pure ⟨_,rfl,?_⟩
   exact h s.toks [.bytes b.toArray t] fun z9=>by refine er (k26 hi') ?_;exact .cons (by first | exact rfl | exact ⟨_,rfl⟩) .nil
  | false =>
   refine wpAny_ite_false (by simp) ?_
   show wpAny _ _ (List.mapM Bytes.Kind.bytes.new (Bytes.between b.toArray [c].toArray.size (idx c 0 b)) >>= _) _ _ _
   refine er (k4P _ _) ?_
   have hl:=Zd c b
   refine wpAny_bind (k5q (fun p hp=>by have:=hl.1 p hp;lia) fun vs k hv=>?_)
   refine wpAny_bind (wpAny_newList ?_ ?_)
   ·exact wpAny_pure ⟨_,rfl,h k vs hv⟩
   ·have:=(hv default).length;refine er this (er KB ?_);simp;lia
end
section
open Builtin
theorem k2L {id:String} {b:Array UInt8} {t:Tok} {f:Int} (hf:(f==Bytes.fullReadOnly)=false):Bytes.takeBuffer? id (.bytes b t) f=pure (some (b,none)):=by
 unfold Bytes.takeBuffer?
 refine er (KBy.special_eq KBy.look_buffer) (er KBy.own_buffer (er hf (er KBy.buffer_eq ?_)))
 kernel_rfl
theorem Um {M:Model} {A:Around} {E:Value→Shared→Prop} {s:Shared} {id:String} {b:Array UInt8} {t:Tok} {Q:Option (Array UInt8×Option Value)→Shared→Prop} (h:Q (some (b,none)) s) :
  wpAny M A (Bytes.takeBufferQuiet? id (.bytes b t) 0) Q E s:=by
 unfold Bytes.takeBufferQuiet?
 refine er (k2L (by decide)) ?_
 exact wpAny_bind (wpAny_attempt (wpAny_pure (wpAny_pure h)))
theorem UC {α β:Type} {M:Model} {A:Around} {E:Value→Shared→Prop} {s:Shared} {f:Nat→β→Sem (ForInStep β)} {st:List α→β} {Q:β→Shared→Prop} {ps:List α}
  (hf:∀ pre x r,ps=pre++x::r→∀ {Q:ForInStep β→Shared→Prop},Q (.yield (st (pre++[x]))) s→wpAny M A (f pre.length (st pre)) Q E s) (h:Q (st ps) s) :
  ∀ (r pre:List α),ps=pre++r→wpAny M A (forIn (List.range' pre.length r.length) (st pre) f) Q E s
 | [],pre,e=>by
  rw[List.append_nil] at e
  rw[e] at h
  exact wpAny_pure h
 | x::r,pre,e=>by
  refine er List.length_cons ?_;rw[List.range'_succ,List.forIn_cons]
  refine wpAny_bind (hf pre x r e ?_)
  have:=UC hf h r (pre++[x]) (e.trans (List.append_cons pre x r))
  rwa [List.length_append] at this
theorem zp (sep:List UInt8):∀ (parts:List (List UInt8)) (k:Nat) (acc:List UInt8),0<k →
  ((parts.map (·.toArray)).zipIdx k).foldl (fun out (x:Array UInt8×Nat)=>(if x.2>0 then out++sep.toArray else out)++x.1) acc.toArray=(parts.foldl (fun a p=>a++sep++p) acc).toArray
 | [],k,acc,_=>by simp
 | p::r,k,acc,hk=>by
  simp only[List.map_cons,List.zipIdx_cons,List.foldl_cons]
  refine er (if_pos hk) (er (show acc.toArray++sep.toArray++p.toArray=(acc++sep++p).toArray by simp) ?_)
  exact zp sep r (k+1) _ (by lia)
theorem Zf {α:Type} (sep:List α):∀ (r:List (List α)) (x:List α),r.foldl (fun a p=>a++sep++p) x=kR sep (x::r)
 | [],x=>rfl
 | y::r,x=>by
  rw[List.foldl_cons,Zf sep r]
  cases r with
  | nil=>rfl
  | cons z t=>simp[wp,wv,wh]
theorem k2N (sep:List UInt8) (parts:List (List UInt8)):Bytes.joined sep.toArray (parts.map (·.toArray))=(kR sep parts).toArray:=by
 unfold Bytes.joined
 cases parts with
 | nil=>rfl
 | cons p r =>
  simp only[List.map_cons,List.zipIdx_cons,List.foldl_cons]
  refine er (Eq.symm (Zf _ _ _)) ?_
  have:=zp sep r 1 p (by lia)
  simpa using this
theorem Yb {α:Type} (sep:List α):∀ parts:List (List α),(kR sep parts).length=(parts.map (·.length)).sum+sep.length*(parts.length-1)
 | []=>by simp[wp,wv,wh]
 | [x]=>by simp[wp,wv,wh]
 | x::y::r=>by
  have ih:=Yb sep (y::r)
  simp only[wp,wv,wh,List.length_append,List.map_cons,List.sum_cons,List.length_cons,Nat.add_sub_cancel] at ih ⊢
  refine er (Nat.mul_add _ _ _) ?_ ;lia
theorem Uw:∀ (parts:List (List UInt8)) (n:Nat),(parts.map (·.toArray)).foldl (fun x1 x2=>x1+x2.size) n=n+(parts.map (·.length)).sum
 | [],n=>by simp
 | p::r,n=>by
  simp only[List.map_cons,List.foldl_cons,List.sum_cons]
  rw[Uw r];simp;lia
theorem WV {M:Model} {A:Around} {E:Value→Shared→Prop} {s:Shared} {keep:List Value} {Q:Unit→Shared→Prop} (h:Q () s):∀ vs:List Value,wpAny M A (Bytes.joinLetGo (vs.map fun v=>(v,none)) keep) Q E s
 | []=>wpAny_pure h
 | v::r=>by
  simp only[List.map_cons]
  exact wpAny_bind (wpAny_letGo (WV h r))
noncomputable def bV (p:List UInt8×Tok):Value:=.bytes p.1.toArray p.2
noncomputable def bT (ps:List (List UInt8×Tok)):List (Value×Option Value):=(ps.map bV).map fun v=>(v,none)
noncomputable def bP (ps:List (List UInt8×Tok)):Array (Array UInt8):=((ps.map Prod.fst).map (·.toArray)).toArray
theorem uE {h:Heap}:∀ {parts:List (List UInt8)} {vs:List Value},VRs h (parts.map .bytes) vs→∀ {G:Prop},(∀ ps:List (List UInt8×Tok),parts=ps.map Prod.fst→vs=ps.map bV→G)→G
 | [],_,e,_,k=>k [] rfl e
 | p::r,_,e,_,k=>x22 e fun z9 z9 e1 e2 e3=>e2.elim fun t e2=>uE e3 fun ps h1 h2=>k ((p,t)::ps) (by refine er h1 ?_;rfl) (by refine er e1 (er e2 (er h2 ?_));rfl)
theorem k4W:∀ ps,(bT ps).any (·.1.onHeap)=false
 | []=>rfl
 | _::r=>k4W r
theorem K0D (sep:List UInt8) (ps:List (List UInt8×Tok)) (hz:(kR sep (ps.map Prod.fst)).length≤kt):Bytes.tooLong ((bP ps).foldl (fun x1 x2=>x1+x2.size) (sep.toArray.size*((bP ps).size-1)))=false:=by
 unfold bP
 rw[List.foldl_toArray,Uw]
 refine decide_eq_false (Nat.not_lt.mpr ?_)
 rw[Yb] at hz
 refine er List.size_toArray ?_;refine er List.size_toArray ?_;refine er (List.length_map _) ?_;refine er (List.length_map _) ?_;refine er (Nat.add_comm _ _) ?_
 rw[List.length_map] at hz
 exact hz
theorem m1 {α:Type} {M:Model} {A:Around} {Q:α→Shared→Prop} {E:Value→Shared→Prop} {s:Shared} {f:Value→Sem α} {g:Array Value→Sem α}:∀ ps:List (List UInt8×Tok),(∀ p,ps=[p]→wpAny M A (f (bV p)) Q E s)→wpAny M A (g (ps.map bV).toArray) Q E s→wpAny M A (Bytes.joinM.match_1 (fun z9=>Sem α) (ps.map bV).toArray f g) Q E s
 | [],_,h=>h
 | [p],h,_=>h p rfl
 | _::_::_,_,h=>h
theorem k8K (sep:List UInt8) (ps:List (List UInt8×Tok)) (t:Tok) (a:Addr) (n:Nat) (hz:(kR sep (ps.map Prod.fst)).length≤kt) :
  Meets (Builtin.«bytes.join» ⟨[.bytes sep.toArray t,.ref a],[]⟩) (fun z9 R s=>s.heap.get? a=some (KH (ps.map bV) n)∧∀ k t',R (.ok (.ret (.bytes (kR sep (ps.map Prod.fst)).toArray t'))) { s with toks:=k }) :=
 .of_wp fun prog w A R s h=>by
  obtain ⟨hl,h⟩:=h
  show wpAny _ _ (Bytes.joinM .bytes _) _ _ _
  delta Bytes.joinM
  refine wpAny_bind (wpAny_of_eq (a:=(.bytes sep.toArray t,.ref a)) rfl ?_)
  refine wpAny_ite_true rfl (wpAny_bind ?_)
  delta Bytes.joinItems
  refine wpAny_bind (wpAny_typeOf ⟨_,hl,rfl⟩ (wpAny_ite_true rfl (wpAny_pure (wpAny_bind (wpAny_seqItems hl rfl (wpAny_ite_true rfl ?_))))))
  dsimp only
  have J:=k2N sep (ps.map Prod.fst)
  have Z:=Nat.le_trans (Nat.le_of_eq (congrArg Array.size J)) hz
  refine m1 ps (fun p e=>?_) ?_
  ·subst e
   exact wpAny_bind (wpAny_typeOf (typeIs_bytes _ _ _) (wpAny_ite_true rfl (wpAny_bind (wpAny_rule (wpAny_pure ⟨_,rfl,h s.toks p.2⟩)))))
  ·rw[← J] at h
   refine wpAny_bind (m:=forIn _ _ _) ?_
   rw[Std.Legacy.Range.forIn_eq_forIn_range']
   have L:Std.Legacy.Range.size [:(ps.map bV).toArray.size]=ps.length:=by simp[Std.Legacy.Range.size]
   rw[L]
   refine UC (ps:=ps) (st:=fun ps=>(bP ps,bT ps)) (fun pre p r e Q hq=>?_) ?_ ps [] rfl
   ·refine wpAny_bind (wpAny_seqItems hl rfl (wpAny_ite_false (by refine er (k4W _) ?_;decide) ?_))
    have hg:(ps.map bV).toArray.getD pre.length .none=bV p:=by refine er e ?_;simp
    refine er hg ?_
    refine wpAny_bind (wpAny_holding (Um (wpAny_bind (wpAny_seqItems hl rfl (wpAny_ite_false (by simp) (wpAny_pure ?_))))))
    have z1:bP (pre++[p])=(bP pre).push p.1.toArray:=by simp[bP]
    have z2:bT (pre++[p])=bT pre++[(bV p,none)]:=by simp[bT]
    rwa [z1,z2] at hq
   refine wpAny_bind (wpAny_of_eq (a:=sep.toArray) rfl ?_)
   refine wpAny_ite_false (decide_eq_false fun z=>Bool.false_ne_true ((K0D sep ps hz).symm.trans z)) ?_
   exact wpAny_bind (uG Z fun t1 k=>wpAny_bind (wpAny_holding (wpAny_point (wpAny_bind (WV (wpAny_pure ⟨_,rfl,h k t1⟩) _)))))
theorem yz (sep:List UInt8) (parts:List (List UInt8)) (t:Tok) (a:Addr) (vs:List Value) (n:Nat) (hp:∀ h,VRs h (parts.map .bytes) vs) (hz:(kR sep parts).length≤kt) :
  Meets (Builtin.«bytes.join» ⟨[.bytes sep.toArray t,.ref a],[]⟩) (fun z9 R s=>s.heap.get? a=some (KH vs n)∧∀ k t',R (.ok (.ret (.bytes (kR sep parts).toArray t'))) { s with toks:=k }) :=
 uE (hp default) fun ps e1 e2=>by cases e1;cases e2;exact k8K sep ps t a n hz
noncomputable def MN.id:MN→String
 | .sjoin => "str.join" | .sfind => "str.find" | .ssplit => "str.split"
 | .bfind => "bytes.find" | .brfind => "bytes.rfind" | .bsplit => "bytes.split" | .bpart => "bytes.partition" | .bjoin => "bytes.join"
 | .lappend => "list.append" | .lpop => "list.pop" | .dget => "dict.get" | .dsetdef => "dict.setdefault" | .dpop => "dict.pop"
noncomputable def MN.nm:MN→PySem.Str
 | .sjoin => "join" | .sfind => "find" | .ssplit => "split"
 | .bfind => "find" | .brfind => "rfind" | .bsplit => "split" | .bpart => "partition" | .bjoin => "join"
 | .lappend => "append" | .lpop => "pop" | .dget => "get" | .dsetdef => "setdefault" | .dpop => "pop"
section
variable {prog:Program} {w:World} {b0:Heap} {os0:OsState} {l:List Env} {σ σ' σ₁ σ₂:Sto} {s s' s₁ s₂:Shared} {h h':Heap} {A:Around} {E:Value→Shared→Prop}
theorem iso {α:Type} {o:Option α} {G:Prop} (h:o.isSome=true) (k:∀ x,o=some x→G):G:=by
 cases o with
 | none=>injection h
 | some x=>exact k x rfl
noncomputable abbrev OfT (s:Shared) (u:Value) (T:String):Prop:=s.TypeIs u T∧∀ a,u=.ref a→∃ ob,s.heap.get? a=some ob∧ob.dict=none
theorem K1z {x:V} {u:Value} (rx:VR s.heap x u) (q:(qk x).isSome=true):OfT s u "str" := iso q fun c e=>by
 obtain ⟨t,rfl⟩:=k3e rx e;exact ⟨typeIs_str _ _ _,nofun⟩
theorem K0r {x:V} {u:Value} (rx:VR s.heap x u) (q:(qC x).isSome=true):OfT s u "bytes" := iso q fun c e=>by
 obtain ⟨t,rfl⟩:=k3q rx e;exact ⟨typeIs_bytes _ _ _,nofun⟩
theorem k4N {a:Addr} {T:String} {ob:Obj} (h:s.heap.get? a=some ob) (c:ob.cls=.type T) (d:ob.dict=none):OfT s (.ref a) T:=⟨⟨ob,h,c⟩,fun b e=>Value.ref.inj e▸⟨ob,h,d⟩⟩
theorem K2e (I:Inv prog w b0 os0 l σ s) {x:V} {u:Value} (rx:VR s.heap x u) (q:((jq x).bind fun a=>asL (σ.get a)).isSome=true):OfT s u "list" := iso q fun xs e=>ob e fun a ea e=>x21 (qz I (YW e)) fun vs n h z9=>by
 refine er (Zr rx ea) ?_;exact k4N h rfl rfl
theorem K1S (I:Inv prog w b0 os0 l σ s) {x:V} {u:Value} (rx:VR s.heap x u) (q:((jq x).bind fun a=>asD (σ.get a)).isSome=true):OfT s u "dict" := iso q fun xs e=>ob e fun a ea e=>x11 (I.own _ _ (Zc e)) fun ps hd z9=>x32 hd fun o es ep ho hx z9=>by
 refine er (Zr rx ea) ?_;exact k4N ho hx.1 hx.2.1
theorem k2M (I:Inv prog w b0 os0 l σ s) {m:MN} {x:V} {u:Value} (rx:VR s.heap x u) (q:uj m x σ=true) :
  ∃ T,PlainAttrs T∧Slot T m.nm m.id∧typeOf (.builtin m.id)=pure (.type "method_descriptor")∧OfT s u T:=by
 cases m with
 | sjoin=>exact ⟨"str",F.plainAttrs_str,F.slot_str_join,F.type_str_join,K1z rx q⟩
 | sfind=>exact ⟨"str",F.plainAttrs_str,F.slot_str_find,F.type_str_find,K1z rx q⟩
 | ssplit=>exact ⟨"str",F.plainAttrs_str,F.slot_str_split,F.type_str_split,K1z rx q⟩
 | bfind=>exact ⟨"bytes",FB.plainAttrs_bytes,Qk,zd,K0r rx q⟩
 | brfind=>exact ⟨"bytes",FB.plainAttrs_bytes,qW,yA,K0r rx q⟩
 | bsplit=>exact ⟨"bytes",FB.plainAttrs_bytes,Qd,yp,K0r rx q⟩
 | bpart=>exact ⟨"bytes",FB.plainAttrs_bytes,Jf,QH,K0r rx q⟩
 | bjoin=>exact ⟨"bytes",FB.plainAttrs_bytes,Qj,Yi,K0r rx q⟩
 | lappend=>exact ⟨"list",F.plainAttrs_list,F.slot_list_append,F.type_list_append,K2e I rx q⟩
 | lpop=>exact ⟨"list",F.plainAttrs_list,F.slot_list_pop,F.type_list_pop,K2e I rx q⟩
 | dget=>exact ⟨"dict",F.plainAttrs_dict,F.slot_dict_get,F.type_dict_get,K1S I rx q⟩
 | dsetdef=>exact ⟨"dict",F.plainAttrs_dict,F.slot_dict_setdefault,F.type_dict_setdefault,K1S I rx q⟩
 | dpop=>exact ⟨"dict",F.plainAttrs_dict,F.slot_dict_pop,F.type_dict_pop,K1S I rx q⟩
end
end
section
variable {prog:Program} {w:World} {b0:Heap} {os0:OsState} {l:List Env} {σ σ' σ₁ σ₂:Sto} {s s' s₁ s₂:Shared} {h h':Heap} {A:Around} {E:Value→Shared→Prop}
theorem k0O {x:V} {vs:List Value} (r:VRs h [x] vs):∃ v,vs=[v]∧VR h x v:=x22 r.cons_eq fun v q e r1 r2=>⟨v,by exact er e (er r2.nil_eq rfl),r1⟩
theorem k3w {xs:List V} {x:V} {vs:List Value} (rs:VRs h xs vs) (e:one xs=some x):∃ v,vs=[v]∧VR h x v:=k0O (KP e▸rs)
theorem K1k {xs:List V} {x y:V} {vs:List Value} (rs:VRs h xs vs) (e:xs=[x,y]) {G:Prop} (k:∀ v u,vs=[v,u]→VR h x v→VR h y u→G):G :=
 x22 (e▸rs).cons_eq fun v q e1 r1 r2=>x11 (k0O r2) fun u e2 r3=>k v u (by exact er e1 (er e2 rfl)) r1 r3
theorem Jq {α:Type} {f:V→Option α} {y:V} {ys:List V} {ts:List α} (e:zC f (y::ys)=some ts) {G:Prop} (k:∀ t r,f y=some t→zC f ys=some r→t::r=ts→G):G :=
 ob (f:=fun a=>(zC f ys).map (a::·)) e fun t e1 e=>om e fun r e2 e=>k t r e1 e2 e
theorem k8X {ys:List V}:∀ {vs:List Value} {ts:List (List Nat)},VRs h ys vs→k4a ys=some ts→∃ l:List (PySem.Str×Tok),vs=strValues l∧l.map (·.1)=ts.map ke:=by
 induction ys with
 | nil=>intro vs ts r e;refine er r.nil_eq ?_;exact ⟨[],rfl,by refine er (Eq.symm (Option.some.inj e)) ?_;rfl⟩
 | cons y ys ih =>
  intro vs ts r e
  refine x22 r.cons_eq fun v q ev r1 r2=>Jq e fun t r e1 e2 et=>(k3e r1 e1).elim fun k ek=>x11 (ih r2 e2) fun l el em=>?_
  refine er ev (er ek (er el (er (Eq.symm et) ?_)))
  exact ⟨(_,k)::l,rfl,congrArg (_::·) em⟩
theorem k6A {ys:List V}:∀ {vs:List Value} {ts:List (List UInt8)},VRs h ys vs→k1I ys=some ts→∀ h',VRs h' (ts.map .bytes) vs:=by
 induction ys with
 | nil=>intro vs ts r e h';refine er r.nil_eq (er (Eq.symm (Option.some.inj e)) ?_);exact .nil
 | cons y ys ih =>
  intro vs ts r e h'
  refine x22 r.cons_eq fun v q ev r1 r2=>Jq e fun t r e1 e2 et=>(k3q r1 e1).elim fun k ek=>?_
  refine er ev (er ek (er (Eq.symm et) ?_));exact .cons vrB (ih r2 e2 h')
theorem k0m:∀ {l:List (PySem.Str×Tok)} {ts:List (List Nat)},l.map (·.1)=ts.map ke→VRs h (ts.map .str) (strValues l)
 | [],[],_=>.nil
 | [],_::_,e=>by injection e
 | _::_,[],e=>by injection e
 | (x,t)::l,y::ts,e=>by
  obtain ⟨e1,e2⟩:=List.cons.inj e
  exact .cons ⟨t,congrArg (Value.str · t) e1⟩ (k0m e2)
theorem k41 (sep:List Nat):∀ ts:List (List Nat),(((ts.map ke).map (·.length)).sum+(ts.map ke).length*sep.length)≤(kR sep ts).length+sep.length:=by
 intro ts
 rw[Yb,List.map_map,List.length_map]
 have:(List.map ((fun x=>x.length)∘ke) ts)=ts.map (·.length):=by apply List.map_congr_left;intro x z9;simp[ke,PySem.Str.length]
 rw[this]
 cases ts with
 | nil=>simp
 | cons x r=>simp only[List.length_cons,Nat.add_sub_cancel,Nat.add_mul,Nat.mul_comm sep.length];lia
open Builtin Builtin.Str in
theorem k2V {x:PySem.Str} {t:Tok} {Q:Value→Shared→Prop} (h:∀ l k,l.map (·.1)=Txt.words x→Q (.ref s.heap.objs.size) { s with heap:=s.heap.push (KH (strValues l) 0),toks:=k })
  (hsz:x.length≤sizeLine) (hsz2:(spaceWords x (x.length+1)).length≤sizeLine):wpAny (model prog w) A (call (.builtin "str.split") [.str x t]) Q E s:=by
 refine call_meets F.slot_str_split (typeIs_str _ _ _) F.entry_str_split (F.args_str_split_1 _) (meets_str_split_space x t hsz hsz2) ?_
 cases hw:spaceWords x (x.length+1)==[(0,x.length)]
 ·simp only[Bool.false_eq_true,if_false]
  refine er (strsFrom_eq _ _) ?_
  exact h (numbered s.toks (PySem.wordsOf x)) _ ((numbered_texts _ _).trans (if_neg (ne_true_of_eq_false hw)).symm)
 ·simp only[if_true]
  exact h [(x,t)] s.toks (if_pos hw).symm
open Builtin Builtin.Str in
theorem k3m {x y:PySem.Str} {t u:Tok} {Q:Value→Shared→Prop} (hy:(y.length==0)=false) (h:∀ l k,l.map (·.1)=Txt.split x y→Q (.ref s.heap.objs.size) { s with heap:=s.heap.push (KH (strValues l) 0),toks:=k })
  (hsz:x.length≤sizeLine) (hsz2:(partsBetween x (occurrences x y 0 x.length (x.length+1)) y.length).length≤sizeLine):wpAny (model prog w) A (call (.builtin "str.split") [.str x t,.str y u]) Q E s:=by
 cases h1:(decide (x.length<y.length)||decide (strKind x<strKind y))
 ·cases hf:(occurrences x y 0 x.length (x.length+1)).isEmpty
  ·refine call_meets F.slot_str_split (typeIs_str _ _ _) F.entry_str_split (F.args_str_split_2 _ _) (meets_str_split_sep x y t u h1 hy hf hsz hsz2) ?_
   show wants Q E _ { s with toks:=_,heap:=s.heap.push { cls:=.type "list",data:=.seq (strsFrom s.toks (partsBetween x (occurrences x y 0 x.length (x.length+1)) y.length)).toArray } }
   refine er (strsFrom_eq _ _) ?_
   exact h (numbered s.toks _) _ ((numbered_texts _ _).trans ((if_neg (ne_true_of_eq_false h1)).trans (if_neg (ne_true_of_eq_false hf))).symm)
  ·exact call_meets F.slot_str_split (typeIs_str _ _ _) F.entry_str_split (F.args_str_split_2 _ _) (meets_str_split_not_found x y t u h1 hy hf)
    (h [(x,t)] s.toks ((if_neg (ne_true_of_eq_false h1)).trans (if_pos hf)).symm)
 ·exact call_meets F.slot_str_split (typeIs_str _ _ _) F.entry_str_split (F.args_str_split_2 _ _) (meets_str_split_cannot_occur x y t u h1)
   (h [(x,t)] s.toks (if_pos h1).symm)
open Builtin.Str in
theorem k4J (x y:PySem.Str):(partsBetween x (occurrences x y 0 x.length (x.length+1)) y.length).length≤x.length+2:=by
 have:=StrLaws.occ_length_le x y 0 x.length (x.length+1)
 unfold partsBetween
 simp only[List.length_map,List.length_zip,List.length_cons,List.length_append,List.length_nil]
 lia
theorem k3L (x:PySem.Str):(Builtin.Str.spaceWords x (x.length+1)).length≤x.length+1 :=
 Nat.le_trans (StrLaws.len_le_wsum _) (StrLaws.sw_weight x).1
theorem ug {k:Key} {v:Value} (e:k.is v=true):(keyPart v).isSome=true:=by
 rcases k.is_shape e with ⟨s,t,rfl,rfl⟩ | ⟨b,t,rfl,rfl⟩ <;> rfl
theorem rRL (I:Inv prog w b0 os0 l σ s) {x:V} {u:Value} {P:Addr→List V→Prop} (rx:VR s.heap x u) (q:K01 x σ P) {G:Prop} (k:∀ a ys vs n,u=.ref a→σ.get a=some (.list ys)→s.heap.get? a=some (KH vs n)→VRs s.heap ys vs→P a ys→G):G :=
 su q fun a ea q=>rL I q fun ys vs n ha h1 r1 q=>k a ys vs n (Zr rx ea) ha h1 r1 q
theorem rRD (I:Inv prog w b0 os0 l σ s) {x:V} {u:Value} {P:Addr→List (V×V)→Prop} (rx:VR s.heap x u) (q:K1d x σ P) {G:Prop} (k:∀ a kvs ps,u=.ref a→σ.get a=some (.dict kvs)→s.heap.DictOf (kB prog w) a ps→KvR s.heap kvs ps→P a kvs→G):G :=
 su q fun a ea q=>inD q fun kvs ha q=>x11 (I.own _ _ ha) fun ps hd r=>k a kvs ps (Zr rx ea) ha hd r q
theorem k9u {x:V} {v:Value} {P:UInt8→Prop} (r:VR h x v) (q:k55 x P) {G:Prop} (k:∀ c t,v=.bytes [c].toArray t→P c→G):G :=
 su q fun p ep q=>su q fun c ec q=>(k3q r ep).elim fun t e=>k c t (by exact er e (er (KP ec) rfl)) q
theorem YL (cs:List Nat):(ke cs).length=cs.length:=rfl
section
variable {x:V} {xs:List V} {u:Value} {vs:List Value} {Q:QV}
theorem k0x (I:Inv prog w b0 os0 l σ s) {sep:List Nat} {t:Tok} (rs:VRs s.heap xs vs) (q:k7o sep xs σ Q):wpAny (model prog w) A (call (.builtin "str.join") (.str (ke sep) t::vs)) (PV prog w b0 os0 l σ s Q) E s :=
 su q fun x ex q=>x11 (k3w rs ex) fun v ev rv=>rRL I rv q fun a ys ws n ea ha h1 r1 q=>su q fun ts ht q=>x11 (k8X r1 ht) fun ls el e=>by
  refine er ev ?_;refine er ea ?_
  rw[el] at h1
  refine SC.join (kF h1) e ?_ fun t' k=>by refine er (k5Y _ _) ?_;exact PV.same I vrS q.2
  unfold JoinOk
  rw[StrLaws.joinTotal,YL]
  have:=k41 sep ts
  have hz:=q.1
  simp only[Builtin.Str.tooLong,Bool.not_eq_true',decide_eq_false_iff_not,sizeLine_eq]
  unfold kt at hz;lia
theorem k1a (I:Inv prog w b0 os0 l σ s) {sep:List UInt8} {t:Tok} (rs:VRs s.heap xs vs) (q:k7t sep xs σ Q):wpAny (model prog w) A (call (.builtin "bytes.join") (.bytes sep.toArray t::vs)) (PV prog w b0 os0 l σ s Q) E s :=
 su q fun x ex q=>x11 (k3w rs ex) fun v ev rv=>rRL I rv q fun a ys ws n ea ha h1 r1 q=>su q fun ts ht q=>by
  refine er ev (er ea ?_)
  exact call_meets Qj (typeIs_bytes _ _ _) yw (zm _ _) (yz sep ts t a ws n (k6A r1 ht) q.1) ⟨h1,fun k t'=>PV.same I vrB q.2⟩
theorem Uo (I:Inv prog w b0 os0 l σ s) {cs:List Nat} {t:Tok} (rs:VRs s.heap xs vs) (q:k7P cs xs σ Q):wpAny (model prog w) A (call (.builtin "str.split") (.str (ke cs) t::vs)) (PV prog w b0 os0 l σ s Q) E s:=by
 cases xs with
 | nil =>
  refine er rs.nil_eq ?_
  refine k2V (fun ls k e=>?_) (by rw[YL,sizeLine_eq];have:=q.1;lia) (Nat.le_trans (k3L _) (by rw[YL,sizeLine_eq];have:=q.1;lia))
  rw[k5r cs q.2.1] at e
  exact PV.newList I (k0m e) q.2.2
 | cons x r =>
  refine su q fun x ex q=>su q fun p ep q=>su q fun c ec q=>x11 (k3w rs ex) fun v ev rv=>(k3e rv ep).elim fun t' e'=>?_
  refine er ev ?_;refine er e' ?_;refine er (KP ec) ?_
  refine k3m rfl (fun ls k e=>?_) (by rw[YL,sizeLine_eq];have:=q.1;lia) (Nat.le_trans (k4J _ _) (by rw[YL,sizeLine_eq];have:=q.1;lia))
  rw[k4A] at e
  exact PV.newList I (k0m e) q.2
theorem k0T (I:Inv prog w b0 os0 l σ s) {cs:List UInt8} {c:UInt8} {t t':Tok} (q:K0t cs c σ Q):wpAny (model prog w) A (call (.builtin "bytes.partition") [.bytes cs.toArray t,.bytes [c].toArray t']) (PV prog w b0 os0 l σ s Q) E s:=by
 refine call_meets Jf (typeIs_bytes _ _ _) Qf (QE _ _) (Qx cs c t t' q.1) (fun k t1 t2=>?_)
 have q2:=q.2
 cases hi:KC [c] cs with
 | some i=>rw[hi] at q2;exact PV.newTup I (.cons vrB (.cons vrB (.cons vrB .nil))) q2
 | none=>rw[hi] at q2;exact PV.newTup I (.cons vrB (.cons vrB (.cons vrB .nil))) q2
theorem yX (I:Inv prog w b0 os0 l σ s) {a:Addr} {c:yO} (ha:σ.get a=some c) (k:∀ b o,b≠a→s.heap.get? b=some o→h'.get? b=some o):KW s.heap h' :=
 fun b oo st e=>k b _ (fun z=>(I.own _ _ ha).notStill st (z▸e)) e
theorem Ug (I:Inv prog w b0 os0 l σ s) {a:Addr} {ys:List V} {ws:List Value} {n:Nat} {y:V} {v:Value} (ha:σ.get a=some (.list ys)) (h1:s.heap.get? a=some (KH ws n)) (r1:VRs s.heap ys ws) (rv:VR s.heap y v) (hz:ys.length<kt) (q:Q .none (σ.upd a (.list (ys++[y])))) :
  wpAny (model prog w) A (call (.builtin "list.append") [.ref a,v]) (PV prog w b0 os0 l σ s Q) E s:=by
 refine wpAny_list_append_plain (items:=ws.toArray) ⟨n,h1⟩ (fun h' hl sb=>?_) (by refine er List.size_toArray (er r1.length (er KB ?_));lia)
 obtain ⟨n',hl⟩:=hl
 have k:∀ b o,b≠a→s.heap.get? b=some o→h'.get? b=some o:=fun b o z e=>(sb.2 b z).trans e
 have T:=yX I ha k
 exact PV.now (kQ.put I (jx ha) k (c:=.list (ys++[y])) ⟨ws++[v],n',by refine er hl ?_;simp,(r1.keep T).append (.cons (rv.keep T) .nil)⟩) vrN q
theorem k3P (I:Inv prog w b0 os0 l σ s) {a:Addr} {ys:List V} {ws:List Value} {n:Nat} (ha:σ.get a=some (.list ys)) (h1:s.heap.get? a=some (KH ws n)) (r1:VRs s.heap ys ws) (q:K16 a ys σ Q) :
  wpAny (model prog w) A (call (.builtin "list.pop") [.ref a]) (PV prog w b0 os0 l σ s Q) E s :=
 su q fun y hy q=>x11 (r1.get (List.getLast?_eq_getElem?▸hy)) fun v hv rv=>by
  refine call_meets F.slot_list_pop ⟨_,h1,rfl⟩ F.entry_list_pop (F.args_list_pop_1 _) (MeetsSeq.list_pop_last a ws.toArray n v (by refine er List.size_toArray (er r1.length ?_);exact (List.getElem?_toArray ..).trans hv) (by refine er List.size_toArray (er r1.length (er KB ?_));exact q.1)) ⟨h1,?_⟩
  generalize hH:s.heap.update a (Obj.mapSeq fun xs=>xs.eraseIdxIfInBounds (ws.toArray.size-1))=H
  have k:∀ b o,b≠a→s.heap.get? b=some o→H.get? b=some o:=fun b o z e=>by refine er (Eq.symm hH) (er (Heap.get?_update_other _ _ (Ne.symm z)) ?_);exact e
  have T:=yX I ha k
  have hup:∃ n',H.get? a=some (KH ws.dropLast n'):=by
   have e0:ws.toArray.eraseIdxIfInBounds (ws.toArray.size-1)=ws.dropLast.toArray:=by
    refine er List.size_toArray ?_;rw[List.eraseIdxIfInBounds_toArray,List.eraseIdx_length_sub_one]
   refine er (Eq.symm hH) (er (Heap.get?_update_self _ h1 rfl) ?_)
   exact ⟨_,congrArg some (by show Obj.mapSeq _ _=_;simp only[Obj.mapSeq,e0];rfl)⟩
  obtain ⟨n',hup⟩:=hup
  refine PV.now (kQ.put I (jx ha) k (c:=.list ys.dropLast) ⟨ws.dropLast,n',hup,?_⟩) (rv.keep T) q.2
  refine er List.dropLast_eq_take (er List.dropLast_eq_take (er r1.length ?_));exact (r1.take (n:=ys.length-1)).keep T
section
variable {a:Addr} {kvs:List (V×V)} {ps:List (Key×Value)} {k:Key} {y:V} {kv v:Value}
theorem k20 (I:Inv prog w b0 os0 l σ s) (H:qY b0) (ha:σ.get a=some (.dict kvs)) (hd:s.heap.DictOf (kB prog w) a ps) (r:KvR s.heap kvs ps) (rk:k.is kv=true) (rd:VR s.heap y v) (q:Q ((kE kvs k).getD y) σ) :
  wpAny (model prog w) A (call (.builtin "dict.get") [.ref a,kv,v]) (PV prog w b0 os0 l σ s Q) E s:=by
 refine call_meetsIn F.slot_dict_get hd.mapOf.typeIs F.entry_dict_get (F.args_dict_get_3 _ _ _) (meets_dict_get_default (kB prog w) a rk (I.notMods H (jx ha)) v) ⟨_,hd.mapOf,?_⟩
 cases g:kE kvs k with
 | none=>rw[g] at q;refine er (wE r g) ?_;exact PV.same I rd q
 | some y=>rw[g] at q;exact x11 (JP r g) fun v z rv=>by refine er z ?_;exact PV.same I rv q
theorem UO (I:Inv prog w b0 os0 l σ s) (H:qY b0) (ha:σ.get a=some (.dict kvs)) (hd:s.heap.DictOf (kB prog w) a ps) (r:KvR s.heap kvs ps) (rk:k.is kv=true) (rd:VR s.heap y v) (q:k5f a kvs k y σ Q) :
  wpAny (model prog w) A (call (.builtin "dict.setdefault") [.ref a,kv,v]) (PV prog w b0 os0 l σ s Q) E s:=by
 obtain ⟨hz,q⟩:=q
 refine call_meetsIn F.slot_dict_setdefault hd.mapOf.typeIs F.entry_dict_setdefault (F.args_dict_setdefault_3 _ _ _) (kt_meets_setdefault (kB prog w) a rk (I.notMods H (jx ha)) v)
  ⟨ps,hd,by refine er (Js r) (er sizeLine_eq ?_);lia,fun v' hv=>?_,fun hn h' hd' sb=>?_⟩
 ·cases g:kE kvs k with
  | none=>rw[wE r g] at hv;injection hv
  | some y=>rw[g] at q;exact x11 (JP r g) fun u z rv=>PV.same I (Option.some.inj (z.symm.trans hv)▸rv) q
 ·cases g:kE kvs k with
  | some y=>exact x11 (JP r g) fun u z rv=>by rw[hn] at z;injection z
  | none =>
   rw[g] at q
   have st:kQ prog w b0 os0 l σ s (σ.upd a (.dict (Kr kvs k y))) { s with heap:=h',toks:=s.toks+1 }:=wH I ha (fun b o z e=>(sb.2 b z).trans e) hd' (YT r (DictOf.nodup hd) rd)
   exact PV.now st (st.vr I rd) q
theorem Ur (I:Inv prog w b0 os0 l σ s) (ha:σ.get a=some (.dict kvs)) (hd:s.heap.DictOf (kB prog w) a ps) (r:KvR s.heap kvs ps) (rv:VR s.heap y v) (q:Q y (σ.upd a (.dict (jS kvs k)))) {h':Heap} (hd':h'.DictOf (kB prog w) a (without ps k)) (kk:∀ b o,b≠a→s.heap.get? b=some o→h'.get? b=some o) :
  PV prog w b0 os0 l σ s Q v { s with heap:=h',toks:=s.toks+1 }:=by
 have st:kQ prog w b0 os0 l σ s (σ.upd a (.dict (jS kvs k))) { s with heap:=h',toks:=s.toks+1 }:=wH I ha kk hd' (k8i r (DictOf.nodup hd))
 exact PV.now st (st.vr I rv) q
end
theorem uC (I:Inv prog w b0 os0 l σ s) (H:qY b0) {m:MN} (rx:VR s.heap x u) (rs:VRs s.heap xs vs) (q:jI m x xs σ Q) :
  wpAny (model prog w) A (call (.builtin m.id) (u::vs)) (PV prog w b0 os0 l σ s Q) E s:=by
 cases m with
 | sjoin=>exact su q fun sep e q=>by obtain ⟨t,rfl⟩:=k3e rx e;exact k0x I rs q
 | bjoin=>exact su q fun sep e q=>by obtain ⟨t,rfl⟩:=k3q rx e;exact k1a I rs q
 | sfind =>
  exact su q fun cs e q=>su q fun x ex q=>su q fun p ep q=>su q fun c ec q=>x11 (k3w rs ex) fun v ev rv=>(k3e rx e).elim fun t e'=>(k3e rv ep).elim fun t' e''=>by
   refine er ev ?_;refine er e' ?_;refine er e'' ?_;refine er (KP ec) ?_
   refine SC.find ?_
   refine er (k6S _ _) ?_;exact PV.same I vrI q.2
 | bfind =>
  exact su q fun cs e q=>su q fun x ex q=>su q fun p ep q=>x11 (k3w rs ex) fun v ev rv=>(k3q rx e).elim fun t e'=>(k3q rv ep).elim fun t' e''=>by
   refine er ev ?_;refine er e' ?_;refine er e'' ?_
   cases p with
   | nil=>exact q.elim
   | cons c p=>exact call_meets Qk (typeIs_bytes _ _ _) yH (YJ _ _) (yn cs (c::p) t t' (by simp)) (PV.same I vrI q.2)
 | brfind =>
  exact su q fun cs e q=>su q fun x ex q=>x11 (k3w rs ex) fun v ev rv=>k9u rv q fun c t' ec q=>(k3q rx e).elim fun t e'=>by
   refine er ev ?_;refine er e' ?_;refine er ec ?_
   exact call_meets qW (typeIs_bytes _ _ _) WN (yD _ _) (WE cs c t t') (PV.same I vrI q.2)
 | ssplit=>exact su q fun cs e q=>by obtain ⟨t,rfl⟩:=k3e rx e;exact Uo I rs q
 | bsplit =>
  exact su q fun cs e q=>su q fun x ex q=>x11 (k3w rs ex) fun v ev rv=>k9u rv q fun c t' ec q=>(k3q rx e).elim fun t e'=>by
   refine er ev ?_;refine er e' ?_;refine er ec ?_
   exact call_meets Qd (typeIs_bytes _ _ _) WR (yo _ _) (WO cs c t t' (by have:=q.1;unfold kt;lia)) (fun k vs hv=>PV.newList I (hv _) q.2)
 | bpart =>
  exact su q fun cs e q=>su q fun x ex q=>x11 (k3w rs ex) fun v ev rv=>k9u rv q fun c t' ec q=>(k3q rx e).elim fun t e'=>by
   refine er ev ?_;refine er e' ?_;refine er ec ?_;exact k0T I q
 | lappend =>
  exact rRL I rx q fun a ys ws n ea ha h1 r1 q=>su q fun y ey q=>x11 (k3w rs ey) fun v ev rv=>by
   refine er ea ?_;refine er ev ?_;exact Ug I ha h1 r1 rv q.1 q.2
 | lpop =>
  exact rRL I rx q fun a ys ws n ea ha h1 r1 q=>by
   rw[q.1] at rs
   refine er ea ?_;refine er rs.nil_eq ?_;exact k3P I ha h1 r1 q.2
 | dget =>
  exact rRD I rx q fun a kvs ps ea ha hd r q=>YV q fun kx dv ex q=>su q fun k hk q=>K1k rs ex fun v1 v2 ev r1 r2=>by
   rw[kx.key_eq hk] at r1
   refine er ea ?_;refine er ev ?_;exact k20 I H ha hd r (k.is_of r1) r2 q
 | dsetdef =>
  exact rRD I rx q fun a kvs ps ea ha hd r q=>YV q fun kx dv ex q=>su q fun k hk q=>K1k rs ex fun v1 v2 ev r1 r2=>by
   rw[kx.key_eq hk] at r1
   refine er ea ?_;refine er ev ?_;exact UO I H ha hd r (k.is_of r1) r2 q
 | dpop =>
  exact rRD I rx q fun a kvs ps ea ha hd r q=>by
   refine er ea ?_
   replace q:(match one xs with
    | some k=>kT k.key? fun k=>K1e a kvs k σ Q False
    | none=>k4R xs fun k v=>kT k.key? fun k=>K1e a kvs k σ Q (Q v σ)):=q
   cases e1:one xs with
   | some kx =>
    rw[e1] at q
    refine su q fun k hk q=>x11 (k3w rs e1) fun v ev r1=>?_
    rw[kx.key_eq hk] at r1
    refine er ev ?_
    have q2:=q.2
    cases g:kE kvs k with
    | none=>rw[g] at q2;exact q2.elim
    | some y =>
     rw[g] at q2
     exact x11 (JP r g) fun v z rv=>call_meetsIn F.slot_dict_pop hd.mapOf.typeIs F.entry_dict_pop (F.args_dict_pop_2 _ _) (meets_dict_pop_there (kB prog w) a (k.is_of r1) [] (.inl rfl) (ug (k.is_of r1))) ⟨ps,v,hd,by refine er (Js r) ?_;refine er sizeLine_eq ?_;have:=q.1;lia,z,fun h' hd' sb=>Ur I ha hd r rv q2 hd' fun b o z e=>(sb.2 b z).trans e⟩
   | none =>
    rw[e1] at q
    refine YV q fun kx dv ex q=>su q fun k hk q=>K1k rs ex fun v1 v2 ev r1 r2=>?_
    rw[kx.key_eq hk] at r1
    refine er ev ?_
    have q2:=q.2
    cases g:kE kvs k with
    | none =>
     rw[g] at q2
     exact call_meetsIn F.slot_dict_pop hd.mapOf.typeIs F.entry_dict_pop (F.args_dict_pop_3 _ _ _) (meets_dict_pop_default (kB prog w) a (k.is_of r1) (I.notMods H (jx ha)) (ug (k.is_of r1)) v2) ⟨ps,hd,wE r g,PV.same I r2 q2⟩
    | some y =>
     rw[g] at q2
     exact x11 (JP r g) fun v z rv=>call_meetsIn F.slot_dict_pop hd.mapOf.typeIs F.entry_dict_pop (F.args_dict_pop_3 _ _ _) (meets_dict_pop_there (kB prog w) a (k.is_of r1) [v2] (.inr ⟨_,rfl⟩) (ug (k.is_of r1))) ⟨ps,v,hd,by refine er (Js r) ?_;refine er sizeLine_eq ?_;have:=q.1;lia,z,fun h' hd' sb=>Ur I ha hd r rv q2 hd' fun b o z e=>(sb.2 b z).trans e⟩
end
end
section
open Builtin
theorem yF:typeLookup (.type "bytes") "__bytes__" = pure (some (.builtin "bytes.__bytes__")):=by rw[typeLookup_type,builtinLookup_eq_fast];kernel_rfl
theorem zA:typeLookup (.type "int") "__bytes__" = pure none:=by rw[typeLookup_type,builtinLookup_eq_fast];kernel_rfl
section
variable {prog:Program} {w:World} {A:Around} {E:Value→Shared→Prop} {s:Shared}
theorem zT {v r:Value} {k:Tok} {Q:Value→Shared→Prop} (hr:∃ b t,r=.bytes b t)
  (hnew:∀ {P:PySem.Fin→Shared→Prop} {E:Value→Shared→Prop},P (.done (.ret r)) { s with toks:=k }→wpAny (model prog w) A.in1.in1 (Builtin.«bytes.__new__» ⟨[.type "bytes",v],[]⟩) P E s)
  (h:Q r { s with toks:=k }):wpAny (model prog w) A (call (.type "bytes") [v]) Q E s:=by
 refine callType_codes (Q₁:=fun obj s₁=>s₁.TypeIs obj "bytes" ∧ Q obj s₁) F.bm_called (F.bm_typeCall _) F.entry_object_init ?_ fun obj s₁ h₁=>?_
 ·refine codeAny_of_tree ?_
  show wpAny _ A.in1.in1 (do checkBuiltinCall "bytes.__new__" ⟨[.type "bytes",v],[]⟩;again (.builtin "bytes.__new__" ⟨[.type "bytes",v],[]⟩)) _ _ s
  refine wpAny_bind (wpAny_of_eq (F.bm_newCall _) (wpAny_pure ⟨plainId_quiet F.bm_plain _,codeAny_builtin F.bm_entry ?_⟩))
  refine er (Around.under_plainId F.bm_plain _) ?_
  obtain ⟨b,t,rfl⟩:=hr
  exact hnew ⟨PySem.W.typeIs_bytes _ _ _,h⟩
 ·exact ⟨h₁.1,F.args_object_init_2 obj _,object_init_meets F.bm_called.init.lookup F.bm_called.made (by decide) prog w A.in1 _ s₁ ⟨h₁.1,rfl,h₁.2⟩⟩
theorem zy {b:Array UInt8} {t:Tok} {Q:Value→Shared→Prop} (h:Q (.bytes b t) s):wpAny (model prog w) A (call (.type "bytes") [.bytes b t]) Q E s:=by
 refine zT (k:=s.toks) (r:=.bytes b t) ⟨_,_,rfl⟩ (fun {P E} hp=>?_) h
 unfold Builtin.«bytes.__new__»
 refine wpAny_bind (wpAny_of_eq (a:=true) rfl ?_)
 refine bm_if_false rfl ?_
 refine wpAny_bind (wpAny_of_eq F.bm_sub ?_)
 refine bm_if_false rfl ?_
 refine wpAny_bind (wpAny_of_eq (F.bm_bind _) ?_)
 refine wpAny_bind (wpAny_of_eq (a:=()) rfl ?_)
 refine wpAny_bind (wpAny_of_eq (a:=()) rfl ?_)
 refine bm_if_false rfl ?_
 refine wpAny_bind (wpAny_specialOf (typeIs_bytes _ _ _) yF ?_)
 dsimp only
 refine wpAny_bind (wpAny_rule ?_)
 refine wpAny_bind (wpAny_typeOf (typeIs_bytes _ _ _) ?_)
 refine bm_if_true rfl ?_
 exact wpAny_pure hp
theorem zJ {i:Int} {t:Tok} {Q:Value→Shared→Prop} (h0:0≤i) (h1:i≤1000) (h:∀ t k,Q (.bytes (Array.replicate i.toNat 0) t) { s with toks:=k }):wpAny (model prog w) A (call (.type "bytes") [.int i t]) Q E s:=by
 refine zT (k:=s.toks+1) (r:=.bytes (Array.replicate i.toNat 0) s.toks) ⟨_,_,rfl⟩ (fun {P E} hp=>?_) (h _ _)
 unfold Builtin.«bytes.__new__»
 refine wpAny_bind (wpAny_of_eq (a:=true) rfl ?_)
 refine bm_if_false rfl ?_
 refine wpAny_bind (wpAny_of_eq F.bm_sub ?_)
 refine bm_if_false rfl ?_
 refine wpAny_bind (wpAny_of_eq (F.bm_bind _) ?_)
 refine wpAny_bind (wpAny_of_eq (a:=()) rfl ?_)
 refine wpAny_bind (wpAny_of_eq (a:=()) rfl ?_)
 refine bm_if_false rfl ?_
 refine wpAny_bind (wpAny_specialOf (typeIs_int _ _ _) zA ?_)
 dsimp only
 refine wpAny_bind (wpAny_bind (wpAny_of_eq (a:=none) rfl (wpAny_pure ?_)))
 refine bm_if_false rfl ?_
 refine wpAny_bind (wpAny_specialOf (typeIs_int _ _ _) F.slot_int_index.lookup ?_)
 refine bm_if_false rfl ?_
 refine wpAny_bind (wpAny_attempt (wpAny_of_eq (rfl:asIndex (.int i t)=pure i) ?_))
 refine wpAny_ite_false (by simp only[Bytes.fitsIndex];simp;lia) ?_
 refine wpAny_ite_false (by simp;lia) ?_
 refine wpAny_ite_false (by simp;lia) ?_
 refine wpAny_ite_false (by simp[Bytes.tooLong,sizeLine_eq];lia) ?_
 refine wpAny_bind (wpAny_rule ?_)
 refine wpAny_bind (wpAny_mkBytes ?_ (by simp[sizeLine_eq];lia))
 exact wpAny_pure hp
theorem k5N {a:Addr} {vs:List Value} {n:Nat} {P:PySem.Fin→Shared→Prop} (ho:s.heap.get? a=some (seqObj "list" vs.toArray n)) (hl:vs.length≤1)
  (h:P (.done (.ret .none)) { s with heap:=sortedHeap s.heap a vs vs.toArray }):wpAny (model prog w) A (Builtin.«list.sort» ⟨[.ref a],[]⟩) P E s:=by
 refine er (list_sort_plain _) ?_
 have ha:a<s.heap.objs.size:=Heap.lt_size ho
 refine wpAny_bind (listItems_at ho rfl ?_)
 refine wpAny_bind (listUpdate_at ho rfl ?_)
 obtain ⟨e1,ho1⟩:∃ e1,(s.heap.update a (Obj.mapSeq fun z9=>#[])).get? a=some (seqObj "list" #[] e1):=⟨_,get?_update_seq ho (fun z9=>#[])⟩
 refine wpAny_bind (seqEpoch_at ho1 rfl ?_)
 refine wpAny_bind (wpAny_newTuple ?_ (by simp[sizeLine_eq];omega))
 refine wpAny_bind (wpAny_newList ?_)
 refine wpAny_holding ?_
 have ho6:(((s.heap.update a (Obj.mapSeq fun z9=>#[])).push (seqObj "tuple" vs.toArray 0)).push (seqObj "list" #[] 0)).get? a=some (seqObj "list" #[] e1):=by
  refine er (Heap.get?_push_ne _ _ _ (by rw[size_push',Heap.size_update];exact Nat.ne_of_lt (Nat.lt_succ_of_lt ha))) ?_;refine er (Heap.get?_push_ne _ _ _ (by rw[Heap.size_update];exact Nat.ne_of_lt ha)) ?_
  exact ho1
 show wpAny (model prog w) A _ P E { s with heap:=((s.heap.update a (Obj.mapSeq fun z9=>#[])).push (seqObj "tuple" vs.toArray 0)).push (seqObj "list" #[] 0) }
 dsimp only
 have h2:vs.toArray.size<2:=by simp;omega
 rw[if_pos h2,if_pos h2]
 refine wpAny_bind (wpAny_pure ?_)
 refine er (StateT.run_pure _ _) ?_
 refine wpAny_bind (wpAny_pure ?_)
 dsimp only
 refine wpAny_bind (seqEpoch_at ho6 rfl ?_)
 have ez:(arrOf (SortSt.mk' general' (vs.toArray.zip vs.toArray) #[] 7 none)).map (·.2)=vs.toArray:=by
  show (vs.toArray.zip vs.toArray).map (·.2)=vs.toArray
  rcases vs with _ | ⟨x,_ | ⟨y,r⟩⟩
  ·simp
  ·simp
  ·simp at hl
 refine wpAny_bind (listUpdate_at ho6 rfl ?_ (hsz2:=by
  refine Nat.le_trans (Nat.le_of_eq (congrArg Array.size ez)) ?_
  simp[sizeLine_eq];omega))
 simp only[bne_self_eq_false,Bool.false_eq_true,if_false]
 have h':=h
 rw[← ez] at h'
 exact wpAny_pure h'
theorem k2P {l:Addr} {vs:List Value} {Q:Value→Shared→Prop} (hl:s.heap.IsList l vs.toArray) (hf:vs.length≤1)
  (h:∀ h' n,(∀ b o,s.heap.get? b=some o→h'.get? b=some o)→h'.get? (s.heap.objs.size+1)=some (KH vs n)→Q (.ref (s.heap.objs.size+1)) { s with heap:=h' }) :
  wpAny (model prog w) A (call (.builtin "sorted") [.ref l]) Q E s:=by
 refine Calls.call_function_entry kind_sorted plain_sorted entry_sorted (args_sorted1 _) ?_
 unfold Builtin.«sorted»
 refine wpAny_bind (m:=checkCount "sorted" 1 1 _) (wpAny_pure ?_)
 refine wpAny_bind (collect_list hl ?_)
 refine wpAny_bind (wpAny_newList ?_ (by simp[sizeLine_eq];omega))
 have hsz:((s.heap.push (seqObj "list" #[] 0)).update s.heap.objs.size (Obj.mapSeq (·++vs.toArray))).objs.size=s.heap.objs.size+1:=by
  rw[Heap.size_update,size_push']
 have hoL:(((s.heap.push (seqObj "list" #[] 0)).update s.heap.objs.size (Obj.mapSeq (·++vs.toArray))).push (seqObj "list" vs.toArray 0)).get? (s.heap.objs.size+1)=some (seqObj "list" vs.toArray 0):=by
  refine er (Eq.symm hsz) ?_;exact Heap.get?_push_size _ rfl
 show wpAny _ _ _ _ _ { s with heap:=((s.heap.push (seqObj "list" #[] 0)).update s.heap.objs.size (Obj.mapSeq (·++vs.toArray))).push (seqObj "list" vs.toArray 0) }
 refine er hsz ?_
 obtain ⟨e,he⟩:=sortedAll_at s.heap vs vs.toArray
 refine wpAny_bind (wpAny_holding (wpAny_call_entry slot_list_sort ⟨_,hoL,rfl⟩ entry_list_sort (k5N hoL hf ⟨_,rfl,?_⟩) (args_list_sort _)))
 exact wpAny_pure ⟨_,rfl,h (sortedAll s.heap vs vs.toArray) e (fun z9 z9=>sortedAll_old) he⟩
end
section
variable {prog:Program} {w:World} {b0:Heap} {os0:OsState} {l:List Env} {σ σ' σ₁ σ₂:Sto} {s s' s₁ s₂:Shared} {h h':Heap} {A:Around} {E:Value→Shared→Prop}
theorem k5E {ys:List V}:∀ {vs:List Value} {bs:List Bool},VRs h ys vs→k2h ys=some bs→vs=bs.map .bool:=by
 induction ys with
 | nil=>intro vs bs r e;refine er r.nil_eq (er (Eq.symm (Option.some.inj e)) ?_);rfl
 | cons y ys ih =>
  intro vs bs r e
  exact x22 r.cons_eq fun v q ev r1 r2=>Jq e fun t r e1 e2 et=>by refine er ev (er (K1A r1 e1) (er (ih r2 e2) (er (Eq.symm et) ?_)));rfl
theorem k8G {ys:List V}:∀ {vs:List Value} {bs:List Int},VRs h ys vs→WP ys=some bs→IntsAre vs bs:=by
 induction ys with
 | nil=>intro vs bs r e;refine er r.nil_eq (er (Eq.symm (Option.some.inj e)) ?_);exact .nil
 | cons y ys ih =>
  intro vs bs r e
  exact x22 r.cons_eq fun v q ev r1 r2=>Jq e fun t r e1 e2 et=>(k0N r1 e1).elim fun k ek=>by refine er ev (er ek (er (Eq.symm et) ?_));exact .cons _ _ (ih r2 e2)
noncomputable def BI.v:BI→Value
 | .len=>.builtin "len" | .chr=>.builtin "chr" | .ord=>.builtin "ord" | .bytes=>.type "bytes" | .str=>.type "str" | .int=>.type "int" | .all=>.builtin "all" | .sorted=>.builtin "sorted"
section
variable {x:V} {v:Value} {Q:QV}
theorem K15 {n:Nat} (h:n≤kt):((n:Nat):Int)<2^63:=Int.ofNat_lt.2 (Nat.lt_of_le_of_lt h (by decide:kt<2^63))
theorem k4L (I:Inv prog w b0 os0 l σ s) (rv:VR s.heap x v) (q:K2h x σ Q):wpAny (model prog w) A (call (.builtin "len") [v]) (PV prog w b0 os0 l σ s Q) E s:=by
 cases x with
 | str cs =>
  obtain ⟨t,rfl⟩:=rv
  exact PyProof.Rows.len_str (Int.not_le.2 (K15 q.1)) (PV.same I vrI q.2)
 | bytes cs =>
  obtain ⟨t,rfl⟩:=rv
  exact len_bytes (Nat.le_trans q.1 (by decide)) (PV.same I vrI q.2)
 | ref a =>
  obtain rfl:=rv
  refine rL I q fun ys vs n ha h1 r1 q=>Calls.call_len_list (kF h1) (by refine er List.size_toArray (er r1.length ?_);exact K15 q.1) ?_
  refine er List.size_toArray (er r1.length ?_);exact PV.same I vrI q.2
 | _=>exact q.elim
theorem Uy (I:Inv prog w b0 os0 l σ s) (hA:A.handled=none) (rv:VR s.heap x v) (q:k7y x σ Q):wpAny (model prog w) A (call (.type "bytes") [v]) (PV prog w b0 os0 l σ s Q) E s:=by
 cases x with
 | int i =>
  obtain ⟨t,rfl⟩:=rv
  exact zJ q.1 q.2.1 fun t k=>PV.same I (x:=.bytes (List.replicate i.toNat 0)) ⟨t,congrArg (Value.bytes · t) (List.toArray_replicate ..).symm⟩ q.2.2
 | bytes b =>
  obtain ⟨t,rfl⟩:=rv
  exact zy (PV.same' I vrB q)
 | ref a =>
  obtain rfl:=rv
  exact rL I q fun ys vs n ha h1 r1 q=>su q.2 fun is hi qq=>call_bytes_ints (kF h1) (k8G r1 hi) qq.1 (by refine er r1.length (er KB ?_);exact q.1) hA fun h' t k g =>
   PV.now (kQ.grow I (s':={ s with heap:=h',toks:=k }) g) (x:=.bytes (is.map fun i=>i.toNat.toUInt8)) ⟨t,rfl⟩ qq.2
 | _=>exact q.elim
theorem k3u (I:Inv prog w b0 os0 l σ s) (hA:A.handled=none) {a:Addr} {bs:List Bool} {n:Nat} (h1:s.heap.get? a=some (KH (bs.map .bool) n)) (q:Q (.bool (bs.all id)) σ):wpAny (model prog w) A (call (.builtin "all") [.ref a]) (PV prog w b0 os0 l σ s Q) E s:=by
 refine call_all_walk (wpAny_pyIter_list (kF h1) ?_)
 refine ⟨s.heap.objs.size,_,_,_,_,_,fun i=>(bs.getD i true),rfl,Walks.list (by simpa using hA) s.heap.objs.size a (Nat.ne_of_lt (Heap.lt_size h1)) _,⟨⟨_,Heap.get?_push_size _ rfl,rfl,rfl⟩,(kF h1).push _⟩,?_,fun h' tk k=>?_⟩
 ·intro i v s' Q' E' hp hq
  rw[List.getElem?_toArray,List.getElem?_map] at hp
  exact om hp fun b hb e=>e▸wpAny_truthy_bool ((show bs.getD i true=b by rw[List.getD,hb];rfl)▸hq)
 ·have ee:(List.range (bs.map Value.bool).toArray.size).all (fun i=>bs.getD i true)=bs.all id:=by
   rw[List.size_toArray];refine er (List.length_map _) ?_
   clear h1 q k
   induction bs with
   | nil=>rfl
   | cons b r ih=>rw[List.length_cons,List.range_succ_eq_map];refine er List.all_cons ?_;refine er List.all_map ?_;rw[List.all_cons];exact congrArg _ ih
  refine er ee ?_
  exact PV.now (kQ.grow I (s':={ s with heap:=h',toks:=tk }) fun b o e=>k b o (by simp;exact Nat.ne_of_lt (Heap.lt_size e)) (Heap.get?_push_of_some _ e)) vrO q
theorem k4M (I:Inv prog w b0 os0 l σ s) {i:Int} {t:Tok} (q:i.natAbs<10^10∧Q (.str (Kh i)) σ):wpAny (model prog w) A (call (.type "str") [.int i t]) (PV prog w b0 os0 l σ s Q) E s:=by
 refine P.str_of_int ?_ (PV.same I (x:=.str (Kh i)) ⟨_,by simp only[Kh,ke];simp;rfl⟩ q.2)
 by_cases z:i.natAbs=0
 ·refine er z ?_;decide
 ·have:=(Nat.log2_lt z).mpr (Nat.lt_of_lt_of_le q.1 (by decide:(10^10:Nat)≤2^100));omega
theorem YR (I:Inv prog w b0 os0 l σ s):s.heap.get? (s.heap.objs.size+1)=none:=Heap.get?_none_of_le (Nat.le_succ _)
end
theorem k3b (I:Inv prog w b0 os0 l σ s) (hA:A.handled=none) {f:BI} {xs:List V} {vs:List Value} {Q:QV} (rs:VRs s.heap xs vs) (q:k9v f xs σ Q) :
  wpAny (model prog w) A (call f.v vs) (PV prog w b0 os0 l σ s Q) E s :=
 su q fun x ex q=>x11 (k3w rs ex) fun v ev rv=>by
  refine er ev ?_
  cases f with
  | len=>exact k4L I rv q
  | chr=>exact su q fun i e q=>by obtain ⟨t,rfl⟩:=k0N rv e;exact P.chr_of_int (by simp;omega) (PV.same I vrS q.2.2)
  | ord=>exact su q fun p e q=>su q fun c ec q=>by obtain ⟨t,rfl⟩:=k3e rv e;refine er (KP ec) ?_;exact P.ord_of_char (PV.same I vrI q)
  | bytes=>exact Uy I hA rv q
  | str=>exact su q fun i e q=>by obtain ⟨t,rfl⟩:=k0N rv e;exact k4M I q
  | int=>exact su q fun i e q=>by obtain ⟨t,rfl⟩:=k0N rv e;exact call_int_int (PV.same' I vrI q)
  | all=>exact su q fun a e q=>rL I q fun ys ws n ha h1 r1 q=>su q fun bs hb q=>by refine er (Zr rv e) ?_;exact k3u I hA (k5E r1 hb▸h1) q
  | sorted =>
   exact su q fun a e q=>rL I q fun ys ws n ha h1 r1 q=>by
    refine er (Zr rv e) ?_
    exact k2P (kF h1) (by refine er r1.length ?_;exact q.1) fun h' n' g hl =>
     PV.now (kQ.new I (s':={ s with heap:=h' }) (YR I) g (c:=.list ys) ⟨ws,n',hl,r1.keep (jM g)⟩) vrR (q.2 _ (I.fresh (YR I)))
end
end
end
section
set_option genCtorIdx false
set_option genInjectivity false
open PySem PySem.Calls PyProof.Rows PySem.W
structure Ctx where
 K:Frag
 names:List (PySem.Str×NameKind)
 vars:List PySem.Str
 init:Addr→Option Addr
 tab:Option (Addr×Addr×PySem.Str):=none
noncomputable def dbg (x:PySem.Str):Bool:=x==("__debug__" : PySem.Str)
noncomputable def qX (Γ:Ctx) (i:Nat) (x:PySem.Str):Bool:=Γ.vars[i]?==some x && !dbg x&&(Γ.names.lookup x==some .local||Γ.names.lookup x==some .cell)
noncomputable def vIs (v:V) (u:Value):Bool:=match v with
 | .int i=>(match u with
  | .int j _=>i==j
  | _=>false)
 | .str s=>(match u with
  | .str t _=>ke s==t
  | _=>false)
 | .bytes s=>(match u with
  | .bytes t _=>s.toArray==t
  | _=>false)
 | .ref a=>has (K0L u) fun b=>a==b
 | _=>false
noncomputable def QU (Γ:Ctx) (v:V) (x:PySem.Str):Bool := !dbg x&&Γ.names.lookup x==some .globalImplicit&&has (nsIn Γ.K mainGlobals x) fun o=>has o (vIs v)
noncomputable def BI.nm:BI→PySem.Str
 | .len => "len" | .chr => "chr" | .ord => "ord" | .bytes => "bytes" | .str => "str" | .int => "int" | .all => "all" | .sorted => "sorted"
noncomputable def K1f (Γ:Ctx) (f:BI) (x:PySem.Str):Bool:=x==f.nm&&Γ.names.lookup x==some .globalImplicit&&nsIn Γ.K mainGlobals x==some none
noncomputable def k0l (Γ:Ctx) (x:PySem.Str):Bool:=x==("range" : PySem.Str)&&Γ.names.lookup x==some .globalImplicit&&nsIn Γ.K mainGlobals x==some none
noncomputable def yQ (e:Expr):Bool:=e.ctorIdx != 26
noncomputable def Qs:IE→Bool
 | .ife ..=>false
 | .not e=>Qs e
 | .and l r=>Qs l&&Qs r
 | .or l r=>Qs l&&Qs r
 | _=>true
noncomputable def jr (outer:List (PySem.Str×NameKind)) (sc:Scope):List (PySem.Str×NameKind) :=
 sc.names.map fun (n,k)=>if (k==.free&&true&&outer.lookup n==some .cell) then (n,.cell) else (n,k)
noncomputable def wt (outer:List (PySem.Str×NameKind)) (x:PySem.Str) (sc:Scope):Bool :=
 sc.kind==.function&&sc.names.lookup x==some .local&&sc.names.all (fun (n,k)=>(k != .cell)&&(k != .local||sc.names.lookup n==some .local)&&(k != .free||outer.lookup n==some .cell))
noncomputable def qe (Γ:Ctx):List Nat→Option (List PySem.Str)
 | []=>some []
 | i::r=>match Γ.vars[i]?,qe Γ r with
  | some x,some xs=>some (x::xs)
  | _,_=>none
noncomputable def jZ (Γ:Ctx) (x:PySem.Str) (xs:List PySem.Str) (sc:Scope):Ctx:={ Γ with names:=jr Γ.names sc,vars:=x::xs }
noncomputable def yZ (Γ:Ctx):Bool:=Γ.vars.all fun x=>Γ.names.lookup x==some .local||Γ.names.lookup x==some .cell
noncomputable def K0J (K:Frag) (f:Addr):Bool:=fnIn K f&&keepIn K (.ref f)&&f != qU
structure Vw where
 kNone:Option (Unit):=none
 kBool:Option (Bool):=none
 kInt:Option (Int):=none
 kStr:Option (PySem.Str):=none
 kBytes:Option (List UInt8):=none
 kName:Option (PySem.Str):=none
 kNameP:Option (PySem.Str×Pos):=none
 kBin:Option (Expr×Operator×Expr):=none
 kUn:Option (UnaryOp×Expr):=none
 kBoolOp:Option (BoolOp×List Expr×Pos):=none
 kCmp:Option (Expr×List CmpOp×List Expr):=none
 kIte:Option (Expr×Expr×Expr):=none
 kAttr:Option (Expr×PySem.Str×Pos):=none
 kSub:Option (Expr×Expr):=none
 kSlice:Option (Option Expr×Option Expr×Option Expr):=none
 kCall:Option (Expr×List Expr×List Keyword×Pos):=none
 kList:Option (List Expr):=none
 kTup:Option (List Expr):=none
 kDict:Option (List (Option Expr)×List Expr):=none
 kComp:Option (Expr×List Comprehension×Scope×Pos):=none
 kLam:Option (Arguments×Expr×Scope×Pos):=none
noncomputable def vw:Expr→Vw
 | .Constant c _ _=>(match c with
  | .none=>{ kNone:=some () }
  | .bool b=>{ kBool:=some b }
  | .int b=>{ kInt:=some b }
  | .str b=>{ kStr:=some b }
  | .bytes b=>{ kBytes:=some b }
  | _=>{})
 | .Name b p=>{ kName:=some b,kNameP:=some (b,p) }
 | .BinOp a o b _=>{ kBin:=some (a,o,b) }
 | .UnaryOp o a _=>{ kUn:=some (o,a) }
 | .BoolOp o a p=>{ kBoolOp:=some (o,a,p) }
 | .Compare a o b _=>{ kCmp:=some (a,o,b) }
 | .IfExp a o b _=>{ kIte:=some (a,o,b) }
 | .Attribute a o p=>{ kAttr:=some (a,o,p) }
 | .Subscript a b _=>{ kSub:=some (a,b) }
 | .Slice a o b _=>{ kSlice:=some (a,o,b) }
 | .Call a o b p=>{ kCall:=some (a,o,b,p) }
 | .List a _=>{ kList:=some a }
 | .Tuple a _ _=>{ kTup:=some a }
 | .Dict a b _=>{ kDict:=some (a,b) }
 | .ListComp a b c p=>{ kComp:=some (a,b,c,p) }
 | .Lambda a b c p=>{ kLam:=some (a,b,c,p) }
 | _=>{}
noncomputable def yg (e:Expr):Bool:=((vw e).kCall.all fun x=>x.1.ctorIdx != 23 || !x.2.1.isEmpty)
noncomputable def Vs {α:Type} (o:Option α) (P:α→Prop):Prop:=match o with
 | some x=>P x
 | none=>True
theorem Vs.get {α:Type} {o:Option α} {P:α→Prop} (h:Vs o P) {x:α} (e:o=some x):P x:=by subst e;exact h
structure K2g (e:Expr) (v:Vw):Prop where
 kNone:Vs v.kNone fun x=>∃ k p,e=.Constant .none k p
 kBool:Vs v.kBool fun x=>∃ k p,e=.Constant (.bool x) k p
 kInt:Vs v.kInt fun x=>∃ k p,e=.Constant (.int x) k p
 kStr:Vs v.kStr fun x=>∃ k p,e=.Constant (.str x) k p
 kBytes:Vs v.kBytes fun x=>∃ k p,e=.Constant (.bytes x) k p
 kName:Vs v.kName fun x=>∃ p,e=.Name x p
 kNameP:Vs v.kNameP fun x=>e=.Name x.1 x.2
 kBin:Vs v.kBin fun x=>∃ p,e=.BinOp x.1 x.2.1 x.2.2 p
 kUn:Vs v.kUn fun x=>∃ p,e=.UnaryOp x.1 x.2 p
 kBoolOp:Vs v.kBoolOp fun x=>e=.BoolOp x.1 x.2.1 x.2.2
 kCmp:Vs v.kCmp fun x=>∃ p,e=.Compare x.1 x.2.1 x.2.2 p
 kIte:Vs v.kIte fun x=>∃ p,e=.IfExp x.1 x.2.1 x.2.2 p
 kAttr:Vs v.kAttr fun x=>e=.Attribute x.1 x.2.1 x.2.2
 kSub:Vs v.kSub fun x=>∃ p,e=.Subscript x.1 x.2 p
 kSlice:Vs v.kSlice fun x=>∃ p,e=.Slice x.1 x.2.1 x.2.2 p
 kCall:Vs v.kCall fun x=>e=.Call x.1 x.2.1 x.2.2.1 x.2.2.2
 kList:Vs v.kList fun x=>∃ p,e=.List x p
 kTup:Vs v.kTup fun x=>∃ k p,e=.Tuple x k p
 kDict:Vs v.kDict fun x=>∃ p,e=.Dict x.1 x.2 p
 kComp:Vs v.kComp fun x=>e=.ListComp x.1 x.2.1 x.2.2.1 x.2.2.2
 kLam:Vs v.kLam fun x=>e=.Lambda x.1 x.2.1 x.2.2.1 x.2.2.2
theorem Ki (e:Expr):K2g e {}:=⟨trivial,trivial,trivial,trivial,trivial,trivial,trivial,trivial,trivial,trivial,trivial,trivial,trivial,trivial,trivial,trivial,trivial,trivial,trivial,trivial,trivial⟩
theorem JT (e:Expr):K2g e (vw e):=by
 cases e with
 | Constant c k p =>
  cases c with
  | none=>exact { Ki _ with kNone:=⟨_,_,rfl⟩ }
  | bool b=>exact { Ki _ with kBool:=⟨_,_,rfl⟩ }
  | int b=>exact { Ki _ with kInt:=⟨_,_,rfl⟩ }
  | str b=>exact { Ki _ with kStr:=⟨_,_,rfl⟩ }
  | bytes b=>exact { Ki _ with kBytes:=⟨_,_,rfl⟩ }
  | _=>exact Ki _
 | Name=>exact { Ki _ with kName:=⟨_,rfl⟩,kNameP:=rfl }
 | BinOp=>exact { Ki _ with kBin:=⟨_,rfl⟩ }
 | UnaryOp=>exact { Ki _ with kUn:=⟨_,rfl⟩ }
 | BoolOp=>exact { Ki _ with kBoolOp:=rfl }
 | Compare=>exact { Ki _ with kCmp:=⟨_,rfl⟩ }
 | IfExp=>exact { Ki _ with kIte:=⟨_,rfl⟩ }
 | Attribute=>exact { Ki _ with kAttr:=rfl }
 | Subscript=>exact { Ki _ with kSub:=⟨_,rfl⟩ }
 | Slice=>exact { Ki _ with kSlice:=⟨_,rfl⟩ }
 | Call=>exact { Ki _ with kCall:=rfl }
 | List=>exact { Ki _ with kList:=⟨_,rfl⟩ }
 | Tuple=>exact { Ki _ with kTup:=⟨_,_,rfl⟩ }
 | Dict=>exact { Ki _ with kDict:=⟨_,rfl⟩ }
 | ListComp=>exact { Ki _ with kComp:=rfl }
 | Lambda=>exact { Ki _ with kLam:=rfl }
 | _=>exact Ki _
noncomputable abbrev k8q (e:Expr):Bool:=(vw e).kNone.isSome
noncomputable abbrev k9y (e:Expr):Option (Bool):=(vw e).kBool
noncomputable abbrev k9A (e:Expr):Option (Int):=(vw e).kInt
noncomputable abbrev K1J (e:Expr):Option (PySem.Str):=(vw e).kStr
noncomputable abbrev k7C (e:Expr):Option (List UInt8):=(vw e).kBytes
noncomputable abbrev yq (e:Expr):Option (PySem.Str):=(vw e).kName
noncomputable abbrev K0g (e:Expr):Option (PySem.Str×Pos):=(vw e).kNameP
noncomputable abbrev K1Q (e:Expr):Option (Expr×Operator×Expr):=(vw e).kBin
noncomputable abbrev vUn (e:Expr):Option (UnaryOp×Expr):=(vw e).kUn
noncomputable abbrev UZ (e:Expr):Option (BoolOp×List Expr×Pos):=(vw e).kBoolOp
noncomputable abbrev K07 (e:Expr):Option (Expr×List CmpOp×List Expr):=(vw e).kCmp
noncomputable abbrev vIf (e:Expr):Option (Expr×Expr×Expr):=(vw e).kIte
noncomputable abbrev uW (e:Expr):Option (Expr×PySem.Str×Pos):=(vw e).kAttr
noncomputable abbrev k8Y (e:Expr):Option (Expr×Expr):=(vw e).kSub
noncomputable abbrev k30 (e:Expr):Option (Option Expr×Option Expr×Option Expr):=(vw e).kSlice
noncomputable abbrev k8o (e:Expr):Option (Expr×List Expr×List Keyword×Pos):=(vw e).kCall
noncomputable abbrev k9D (e:Expr):Option (List Expr):=(vw e).kList
noncomputable abbrev k90 (e:Expr):Option (List Expr):=(vw e).kTup
noncomputable abbrev K0x (e:Expr):Option (List (Option Expr)×List Expr):=(vw e).kDict
noncomputable abbrev K0S (e:Expr):Option (Expr×List Comprehension×Scope×Pos):=(vw e).kComp
noncomputable abbrev K2d (e:Expr):Option (Arguments×Expr×Scope×Pos):=(vw e).kLam
theorem k6N {e:Expr} (h:k8q e=true):∃ k p,e=.Constant .none k p:=by
 have:=(JT e).kNone
 revert this h
 unfold k8q
 cases (vw e).kNone with
 | none=>intro h;injection h
 | some x=>exact fun z9 q=>q
theorem k1z {e:Expr} {x:Bool} (h:k9y e=some x):∃ k p,e=.Constant (.bool x) k p:=(JT e).kBool.get h
theorem Yp {e:Expr} {x:Int} (h:k9A e=some x):∃ k p,e=.Constant (.int x) k p:=(JT e).kInt.get h
theorem k32 {e:Expr} {x:PySem.Str} (h:K1J e=some x):∃ k p,e=.Constant (.str x) k p:=(JT e).kStr.get h
theorem k47 {e:Expr} {x:List UInt8} (h:k7C e=some x):∃ k p,e=.Constant (.bytes x) k p:=(JT e).kBytes.get h
theorem jE {e:Expr} {x:PySem.Str} (h:yq e=some x):∃ p,e=.Name x p:=(JT e).kName.get h
theorem k37 {e:Expr} {x:Expr×Operator×Expr} (h:K1Q e=some x):∃ p,e=.BinOp x.1 x.2.1 x.2.2 p:=(JT e).kBin.get h
theorem k3Q {e:Expr} {x:UnaryOp×Expr} (h:vUn e=some x):∃ p,e=.UnaryOp x.1 x.2 p:=(JT e).kUn.get h
theorem Zb {e:Expr} {x:BoolOp×List Expr×Pos} (h:UZ e=some x):e=.BoolOp x.1 x.2.1 x.2.2:=(JT e).kBoolOp.get h
theorem k03 {e:Expr} {x:Expr×List CmpOp×List Expr} (h:K07 e=some x):∃ p,e=.Compare x.1 x.2.1 x.2.2 p:=(JT e).kCmp.get h
theorem K0C {e:Expr} {x:Expr×Expr×Expr} (h:vIf e=some x):∃ p,e=.IfExp x.1 x.2.1 x.2.2 p:=(JT e).kIte.get h
theorem qE {e:Expr} {x:Expr×PySem.Str×Pos} (h:uW e=some x):e=.Attribute x.1 x.2.1 x.2.2:=(JT e).kAttr.get h
theorem WQ {e:Expr} {x:Expr×Expr} (h:k8Y e=some x):∃ p,e=.Subscript x.1 x.2 p:=(JT e).kSub.get h
theorem uP {e:Expr} {x:Option Expr×Option Expr×Option Expr} (h:k30 e=some x):∃ p,e=.Slice x.1 x.2.1 x.2.2 p:=(JT e).kSlice.get h
theorem k1j {e:Expr} {x:Expr×List Expr×List Keyword×Pos} (h:k8o e=some x):e=.Call x.1 x.2.1 x.2.2.1 x.2.2.2:=(JT e).kCall.get h
theorem k6j {e:Expr} {x:List Expr} (h:k9D e=some x):∃ p,e=.List x p:=(JT e).kList.get h
theorem k0P {e:Expr} {x:List Expr} (h:k90 e=some x):∃ k p,e=.Tuple x k p:=(JT e).kTup.get h
theorem k5O {e:Expr} {x:List (Option Expr)×List Expr} (h:K0x e=some x):∃ p,e=.Dict x.1 x.2 p:=(JT e).kDict.get h
theorem k6L {e:Expr} {x:Expr×List Comprehension×Scope×Pos} (h:K0S e=some x):e=.ListComp x.1 x.2.1 x.2.2.1 x.2.2.2:=(JT e).kComp.get h
theorem k4v {e:Expr} {x:Arguments×Expr×Scope×Pos} (h:K2d e=some x):e=.Lambda x.1 x.2.1 x.2.2.1 x.2.2.2:=(JT e).kLam.get h
noncomputable def two {α:Type}:List α→Option (α×α)
 | [a,b]=>some (a,b)
 | _=>none
theorem k7q {α:Type} {l:List α} {x:α×α} (h:two l=some x):l=[x.1,x.2]:=by
 rcases l with _ | ⟨a,_ | ⟨b,_ | ⟨c,l⟩⟩⟩ <;> first | exact Option.some.inj h▸rfl | injection h
theorem KN {α:Type} {l:List α} (h:l.isEmpty=true):l=[]:=List.isEmpty_iff.mp h
theorem Jl {α:Type} {o:Option α} (h:o.isNone=true):o=none:=Option.isNone_iff_eq_none.mp h
@[irreducible] noncomputable def Uf (e:Expr) (p:PySem.Str→List Expr→Bool):Bool:=has (k8o e) fun x=>x.2.2.1.isEmpty&&has (yq x.1) fun y=>p y x.2.1
theorem jG {e:Expr} {p:PySem.Str→List Expr→Bool} (h:Uf e p=true):∃ x px as pc,e=.Call (.Name x px) as [] pc∧p x as=true:=by
 unfold Uf at h
 exact hs h fun c hc h=>b2 h fun h2 h=>hs h fun y hy h=>(jE hy).elim fun px e=>⟨y,px,c.2.1,c.2.2.2,by exact er (k1j hc) (er (KN h2) (er e rfl)),h⟩
@[irreducible] noncomputable def k6C (e:Expr) (p:Expr→PySem.Str→List Expr→Bool):Bool:=has (k8o e) fun x=>x.2.2.1.isEmpty&&has (uW x.1) fun y=>y.2.2.endLine==x.2.2.2.line&&p y.1 y.2.1 x.2.1
theorem wS {e:Expr} {p:Expr→PySem.Str→List Expr→Bool} (h:k6C e p=true):∃ a x pa as pc,e=.Call (.Attribute a x pa) as [] pc∧(pa.endLine==pc.line)=true∧p a x as=true:=by
 unfold k6C at h
 exact hs h fun c hc h=>b2 h fun h2 h=>hs h fun y hy h=>b2 h fun h4 h=>⟨y.1,y.2.1,y.2.2,c.2.1,c.2.2.2,by exact er (k1j hc) (er (KN h2) (er (qE hy) rfl)),h4,h⟩
@[irreducible] noncomputable def k2W (e:Expr) (p:Expr→PySem.Str→Expr→List Expr→Scope→Pos→Bool):Bool:=has (K0S e) fun x=>has (one x.2.1) fun g=>g.is_async==0&&has (yq g.target) fun y=>p x.1 y g.iter g.ifs x.2.2.1 x.2.2.2
theorem Wi {e:Expr} {p:Expr→PySem.Str→Expr→List Expr→Scope→Pos→Bool} (h:k2W e p=true):∃ a x px it ifs sc pos,e=.ListComp a [⟨.Name x px,it,ifs,0⟩] sc pos∧p a x it ifs sc pos=true:=by
 unfold k2W at h
 exact hs h fun c hc h=>hs h fun g hg h=>b2 h fun h3 h=>hs h fun y hy h=>(jE hy).elim fun px e=>by
  obtain ⟨t,it,ifs,as⟩:=g
  exact ⟨c.1,y,px,it,ifs,c.2.2.1,c.2.2.2,by exact er (k6L hc) (er (KP hg) (er (show t=_ from e) (er (show as=0 from eq_of_beq h3) rfl))),h⟩
theorem k4z {e:Expr} {p:Expr→PySem.Str→Expr→List Expr→Scope→Pos→Bool} {P:Expr→Prop} (h:k2W e p=true) (k:∀ a x px it ifs sc pos,p a x it ifs sc pos=true→P (.ListComp a [⟨.Name x px,it,ifs,0⟩] sc pos)):P e:=by
 refine x71 (Wi h) fun a x px it ifs sc pos zr7 g=>?_;subst zr7
 exact k a x px it ifs sc pos g
theorem k81 {a b:Bool} (h:(a&&b)=true):a=true∧b=true:=Bool.and_eq_true_iff.mp h
noncomputable def k3E (p:Arguments):Bool:=p.posonlyargs.isEmpty&&p.vararg.isNone&&p.kwonlyargs.isEmpty&&p.kw_defaults.isEmpty&&p.kwarg.isNone
theorem Ud {p:Arguments} (e:k3E p=true):p=⟨[],p.args,none,[],[],none,p.defaults⟩:=b5 e fun c1 c2 c3 c4 c5=>by
 clear e
 obtain ⟨a,b,c,d,r,f,g⟩:=p
 exact er (KN c1:a=[]) (er (Jl c2:c=none) (er (KN c3:d=[]) (er (KN c4:r=[]) (er (Jl c5:f=none) rfl))))
noncomputable def k7Q (g:Arguments):Bool:=k3E g&&g.defaults.isEmpty&&has (one g.args) fun a=>a.annotation.isNone&&a.arg==("entry" : PySem.Str)
noncomputable def k7V (e:Expr):Bool:=has (K07 e) fun x=>x.2.1==[.Eq]&&(has (one x.2.2) fun z=>k9A z==some 0)&&has (K1Q x.1) fun y=>y.2.1==.Mod&&k9A y.2.2==some 2 &&
 has (k8Y y.1) fun s=>k9A s.2==some 3&&has (uW s.1) fun t=>t.2.1==("new" : PySem.Str)&&yq t.1==some ("entry" : PySem.Str)
noncomputable def k9F (Γ:Ctx) (P:Addr) (p:Pos) (q:PySem.Str) (e:Expr):Bool:=has (K2d e) fun x=>k7Q x.1&&k7V x.2.1&&x.2.2.2==p&&x.2.2.1.kind==.function&&x.2.2.1.isCoroutine==false&&x.2.2.1.isGenerator==false&&x.2.2.1.names==[(("entry" : PySem.Str),NameKind.local)] &&
 has Γ.tab fun t=>t.2.1==P&&t.2.2==q&&codeHdIn Γ.K t.1 P
theorem k2X {g:Arguments} (h:k7Q g=true):∃ p,g=ZG p :=
 b3 h fun h1 h2 h=>hs h fun a ha h=>b2 h fun h3 h4=>by
  obtain ⟨x,an,p⟩:=a
  exact ⟨p,by exact er (Ud h1) (er (KN h2) (er (KP ha) (er (Jl h3:an=none) (er (eq_of_beq h4:x=_) rfl))))⟩
theorem k2B {e:Expr} (h:k7V e=true):∃ p k,e=zu p k :=
 hs h fun x hx h=>b3 h fun h1 h2 hy=>hs h2 fun z hz h2=>hs hy fun y hy h=>b3 h fun h4 h5 h6=>hs h6 fun s h6 h=>b2 h fun h7 h=>hs h fun t ht h=>b2 h fun h9 h10 =>
  (k03 hx).elim fun p8 e0=>(k37 hy).elim fun p6 e1=>(WQ h6).elim fun p4 e2=>(jE (eq_of_beq h10)).elim fun p1 e4=>x20 (Yp (eq_of_beq h2)) fun k7 p7 e5=>x20 (Yp (eq_of_beq h5)) fun k5 p5 e6=>x20 (Yp (eq_of_beq h7)) fun k3 p3 e7 =>
   ⟨fun i=>[p1,t.2.2,p3,p4,p5,p6,p7,p8].getD i p1,fun i=>[k3,k5,k7].getD i 0,by refine er e0 (er e1 (er e2 (er (qE ht) (er e4 (er e7 (er e6 (er (KP hz) (er e5 (er (eq_of_beq h1) (er (eq_of_beq h4) (er (eq_of_beq h9) ?_)))))))))));rfl⟩
mutual
noncomputable def ckE:Nat→Ctx→IE→Expr→Bool
 | 0,_,_,_=>false
 | n+1,Γ,ie,e=>match ie with
  | .cnone=>k8q e
  | .cbool b=>k9y e==some b
  | .cint i=>k9A e==some i
  | .cstr s=>K1J e==some (ke s)
  | .cbytes s=>k7C e==some s
  | .loc i=>has (yq e) (qX Γ i)
  | .glob v=>has (yq e) (QU Γ v)
  | .bin op l r=>has (K1Q e) fun x=>x.2.1==op.op&&ckE n Γ l x.1&&ckE n Γ r x.2.2
  | .not i=>has (vUn e) fun x=>x.1==.Not&&ckE n Γ i x.2
  | .neg i=>has (vUn e) fun x=>x.1==.USub&&ckE n Γ i x.2
  | .and l r=>has (UZ e) fun x=>x.1==.And&&ckB n Γ x.2.2 .And l r x.2.1
  | .or l r=>has (UZ e) fun x=>x.1==.Or&&ckB n Γ x.2.2 .Or l r x.2.1
  | .cmp op l r=>has (K07 e) fun x=>has (one x.2.1) fun o=>has (one x.2.2) fun b=>o==op.op&&behindInMarks o b==false&&ckE n Γ l x.1&&ckE n Γ r b
  | .cmp2 p q l m r=>has (K07 e) fun x=>has (two x.2.1) fun o=>has (two x.2.2) fun b=>o.1==p.op&&o.2==q.op&&lastMarks [o.1,o.2] [b.1,b.2]==false&&ckE n Γ l x.1&&ckE n Γ m b.1&&ckE n Γ r b.2
  | .ife c t i=>has (vIf e) fun x=>Qs c&&ckE n Γ c x.1&&ckE n Γ t x.2.1&&ckE n Γ i x.2.2
  | .attr C nm o=>has (uW e) fun x=>x.2.1==ke nm&&yb Γ.K C (ke nm)&&yg x.1&&ckE n Γ o x.1
  | .sub o i=>has (k8Y e) fun x=>yQ x.2&&ckE n Γ o x.1&&ckE n Γ i x.2
  | .slice o lo hi=>has (k8Y e) fun x=>has (k30 x.2) fun y=>y.2.2.isNone&&ckE n Γ o x.1&&ckO n Γ lo y.1&&ckO n Γ hi y.2.1
  | .rev o=>has (k8Y e) fun x=>(has (k30 x.2) fun y=>y.1.isNone&&y.2.1.isNone&&has y.2.2 fun z=>has (vUn z) fun u=>u.1==.USub&&k9A u.2==some 1)&&ckE n Γ o x.1
  | .callF f as=>Uf e fun x args=>QU Γ (.ref f) x&&K0J Γ.K f&&k2H n Γ as args
  | .callL i as=>Uf e fun x args=>qX Γ i x&&k2H n Γ as args
  | .new C as=>Uf e fun x args=>QU Γ (.ref C) x&&keepIn Γ.K (.ref C)&&k2H n Γ as args
  | .bi f as=>Uf e fun x args=>K1f Γ f x&&k2H n Γ as args
  | .meth m o as=>k6C e fun a x args=>x==m.nm&&yg a&&decide (args.length<20)&&ckE n Γ o a&&k2H n Γ as args
  | .imeth C f nm o as=>k6C e fun a x args=>x==ke nm&&yg a&&decide (args.length<20)&&plainGet Γ.K C x&&(findIn Γ.K (.ref C) x==some (some (.ref f)))&&isFn Γ.K (.ref f)&&K0J Γ.K f&&ckE n Γ o a&&k2H n Γ as args
  | .list es=>has (k9D e) fun elts=>decide (es.length≤1000)&&k2H n Γ es elts
  | .tup es=>has (k90 e) fun elts=>decide (es.length≤1000)&&k2H n Γ es elts
  | .dict kvs=>has (K0x e) fun x=>K1Z n Γ kvs x.1 x.2&&decide (kvs.length≤15)&&decide ((kvs.map (·.1)).Nodup)
  | .comp caps it cond elt=>k2W e fun y x iter ifs sc z9=>has (qe Γ caps) fun xs=>wt Γ.names x sc&&(xs.all fun y=>(jr Γ.names sc).lookup y==some .cell)&&ckI n Γ it iter&&ckC n (jZ Γ x xs sc) cond ifs&&ckE n (jZ Γ x xs sc) elt y
  | .lam P p q=>k9F Γ P p q e
noncomputable def ckB:Nat→Ctx→Pos→BoolOp→IE→IE→List Expr→Bool
 | 0,_,_,_,_,_,_=>false
 | n+1,Γ,p,o,l,r,es=>match es with
  | x::y::rest=>ckE n Γ l x&&(match rest with | []=>ckE n Γ r y | _=>ckE n Γ r (.BoolOp o (y::rest) p))
  | _=>false
noncomputable def ckC:Nat→Ctx→Option IE→List Expr→Bool
 | 0,_,_,_=>false
 | n+1,Γ,c,ifs=>match c with
  | none=>ifs.isEmpty
  | some c=>has (one ifs) fun t=>Qs c&&ckE n Γ c t
noncomputable def k2H:Nat→Ctx→List IE→List Expr→Bool
 | 0,_,_,_=>false
 | n+1,Γ,as,es=>match as with
  | []=>es.isEmpty
  | a::as=>match es with
   | e::es=>ckE n Γ a e&&k2H n Γ as es
   | []=>false
noncomputable def K1Z:Nat→Ctx→List (List Nat×IE)→List (Option Expr)→List Expr→Bool
 | 0,_,_,_,_=>false
 | n+1,Γ,kvs,ks,vs=>match kvs with
  | []=>ks.isEmpty&&vs.isEmpty
  | ka::kvs=>match ks,vs with
   | k::ks,v::vs=>(has k fun k=>K1J k==some (ke ka.1))&&ckE n Γ ka.2 v&&K1Z n Γ kvs ks vs
   | _,_=>false
noncomputable def ckO:Nat→Ctx→Option IE→Option Expr→Bool
 | 0,_,_,_=>false
 | n+1,Γ,a,e=>match a with
  | none=>e.isNone
  | some a=>has e (ckE n Γ a)
noncomputable def ckI:Nat→Ctx→IT→Expr→Bool
 | 0,_,_,_=>false
 | n+1,Γ,it,e=>match it with
  | .e a=>ckE n Γ a e
  | .range as=>Uf e fun x args=>k0l Γ x&&k2H n Γ as args
end
noncomputable def K1L (mg:PySem.Str→Option Value) (h:Heap):Prop:=∃ bm ob,mg "__builtins__" = some (.ref bm)∧bm≠builtinsNs∧h.get? bm=some ob∧ob.cls=.type "module" ∧ ob.dict=some builtinsNs∧ob.data=.plain
structure Ws (K:Frag) (b0:Heap):Prop where
 X:K.In b0
 T:∃ p loose mg mb,TopRead p loose mg mb b0∧K1L mg b0
 H:qY b0
noncomputable def k7L (h:Heap) (f:Addr) (v:Value):Prop:=(f=qU∧VR h .lam v)∨(f≠qU∧v=.ref f)
noncomputable def k8H (A:Around) (l:List Env) (n:Nat):Prop:=A.handled=none∧A.frames=some l∧A.depth+3*n+3≤recursionLimit∧A.units+60*n+60≤cLine
section
variable (prog:Program) (w:World) (b0:Heap) (os0:OsState) (call:jH) (init:Addr→Option Addr) (n:Nat)
structure At (Γ:Ctx) (env:Env) (ρ:Loc) (σ:Sto) (s:Shared) (A:Around) (l:List Env):Prop where
 names:env.scope.names=Γ.names
 env_:k7l env Γ.vars ρ σ s.heap
 inv:Inv prog w b0 os0 l σ s
 room:k8H A l n
 tab:∀ c P q,Γ.tab=some (c,P,q)→env.code=.ref c∧env.qual++("<lambda>" : PySem.Str)=q
def PVs (l:List Env) (σ:Sto) (s:Shared) (Q:List V→Sto→Prop):List Value→Shared→Prop:=fun vs s'=>∃ xs σ',kQ prog w b0 os0 l σ s σ' s'∧VRs s'.heap xs vs∧Q xs σ'
def PTB (l:List Env) (σ:Sto) (s:Shared) (Q:Bool→Sto→Prop):Bool→Shared→Prop:=fun b s'=>∃ σ',kQ prog w b0 os0 l σ s σ' s'∧Q b σ'
noncomputable def SE (Γ:Ctx) (ie:IE) (e:Expr):Prop:=∀ {env ρ σ s A l Q X},At prog w b0 os0 n Γ env ρ σ s A l→ev call init ie ρ σ Q X→wpAny (model prog w) A (eval e env) (PV prog w b0 os0 l σ s Q) (PX prog w b0 os0 l σ s X) s
noncomputable def SB (Γ:Ctx) (ie:IE) (e:Expr):Prop:=∀ {env ρ σ s A l Q X},At prog w b0 os0 n Γ env ρ σ s A l→evB call init ie ρ σ Q X→wpAny (model prog w) A (isTrue e env (eval e env)) (PTB prog w b0 os0 l σ s Q) (PX prog w b0 os0 l σ s X) s
noncomputable def SEs (Γ:Ctx) (as:List IE) (es:List Expr):Prop:=∀ {env ρ σ s A l Q X pos},At prog w b0 os0 n Γ env ρ σ s A l→evs call init as ρ σ Q X→wpAny (model prog w) A (spliced (backTo pos (starEach es env))) (PVs prog w b0 os0 l σ s fun xs σ=>xs.length=as.length∧Q xs σ) (PX prog w b0 os0 l σ s X) s
noncomputable def UA:Prop:=∀ {f:Addr} {v:Value} {xs:List V} {vs:List Value} {σ:Sto} {s:Shared} {A:Around} {l:List Env} {Q:QV} {X:QX},k7L s.heap f v →
 Inv prog w b0 os0 l σ s→k8H A l n→VRs s.heap xs vs→call f xs σ Q X→wpAny (model prog w) A (PySem.call v vs) (PV prog w b0 os0 l σ s Q) (PX prog w b0 os0 l σ s X) s
noncomputable def k7S:Prop:=∀ {C f:Addr} {xs:List V} {vs:List Value} {σ:Sto} {s:Shared} {A:Around} {l:List Env} {Q:QV} {X:QX},init C=some f→Inv prog w b0 os0 l σ s→k8H A l n→VRs s.heap xs vs →
 (∀ a d,¬ σ.has a→¬ σ.has d→a≠d→call f (.ref a::xs) ((σ.upd d (.dict [])).upd a (.inst C d)) (fun r σ=>r=.none∧Q (.ref a) σ) X) →
 wpAny (model prog w) A (PySem.call (.ref C) vs) (PV prog w b0 os0 l σ s Q) (PX prog w b0 os0 l σ s X) s
end
section
variable {prog:Program} {w:World} {b0:Heap} {os0:OsState} {call:jH} {init:Addr→Option Addr} {n:Nat} {Γ:Ctx} {env:Env} {ρ:Loc} {σ σ' σ₁:Sto} {s s' s₁:Shared} {A:Around} {l:List Env}
theorem At.step (a:At prog w b0 os0 n Γ env ρ σ s A l) (S:kQ prog w b0 os0 l σ s σ' s'):At prog w b0 os0 n Γ env ρ σ' s' A l:=⟨a.names,a.env_.step a.inv S,S.inv,a.room,a.tab⟩
theorem At.kind (a:At prog w b0 os0 n Γ env ρ σ s A l) {x:PySem.Str}:env.kindOf x=Γ.names.lookup x:=by unfold Env.kindOf;exact er a.names rfl
theorem At.kd (a:At prog w b0 os0 n Γ env ρ σ s A l):env.scope.kind=.function:=a.env_.kind
theorem Kz {t:Sem Value} {Q:QV} {X:QX} {R:Value→Shared→Prop} (h:wpAny (model prog w) A t (PV prog w b0 os0 l σ s Q) (PX prog w b0 os0 l σ s X) s)
  (k:∀ x σ₁ v s₁,kQ prog w b0 os0 l σ s σ₁ s₁→VR s₁.heap x v→Q x σ₁→R v s₁):wpAny (model prog w) A t R (PX prog w b0 os0 l σ s X) s :=
 wpAny_mono h (fun v s₁ p=>by refine x22 p ?_;clear p;intro x σ₁ S r q;exact k x σ₁ v s₁ S r q) fun z9 z9 q=>q
theorem k1y {t:Sem Bool} {Q:Bool→Sto→Prop} {X:QX} {R:Bool→Shared→Prop} (h:wpAny (model prog w) A t (PTB prog w b0 os0 l σ s Q) (PX prog w b0 os0 l σ s X) s)
  (k:∀ b σ₁ s₁,kQ prog w b0 os0 l σ s σ₁ s₁→Q b σ₁→R b s₁):wpAny (model prog w) A t R (PX prog w b0 os0 l σ s X) s :=
 wpAny_mono h (fun v s₁ p=>by refine x11 p ?_;clear p;intro σ₁ S q;exact k v σ₁ s₁ S q) fun z9 z9 q=>q
theorem JU {t:Sem (List Value)} {Q:List V→Sto→Prop} {X:QX} {R:List Value→Shared→Prop} (h:wpAny (model prog w) A t (PVs prog w b0 os0 l σ s Q) (PX prog w b0 os0 l σ s X) s)
  (k:∀ xs σ₁ vs s₁,kQ prog w b0 os0 l σ s σ₁ s₁→VRs s₁.heap xs vs→Q xs σ₁→R vs s₁):wpAny (model prog w) A t R (PX prog w b0 os0 l σ s X) s :=
 wpAny_mono h (fun v s₁ p=>by refine x22 p ?_;clear p;intro x σ₁ S r q;exact k x σ₁ v s₁ S r q) fun z9 z9 q=>q
theorem PTB.back {Q:Bool→Sto→Prop} {b:Bool} {s'':Shared} (S:kQ prog w b0 os0 l σ s σ' s') (p:PTB prog w b0 os0 l σ' s' Q b s''):PTB prog w b0 os0 l σ s Q b s'':=by
 refine x11 p ?_;clear p;intro σ₂ a c;exact ⟨σ₂,S.trans a,c⟩
theorem jb {α:Type} {t:Sem α} {R R':α→Shared→Prop} {X:QX} (S:kQ prog w b0 os0 l σ s σ' s') (p:wpAny (model prog w) A t R (PX prog w b0 os0 l σ' s' X) s') (k:∀ a s'',R a s''→R' a s'') :
  wpAny (model prog w) A t R' (PX prog w b0 os0 l σ s X) s':=wpAny_mono p (fun z9 z9 q=>k _ _ q) fun z9 z9 q=>q.back S
theorem k0G {a:Expr} {x:PySem.Str} {env:Env} {t:Sem Value} (h:yg a=true):attributeBase a x env t=t:=by
 cases a with
 | Call f as ks p=>cases f with
  | Name i q=>cases as with
   | nil=>exact ft h
   | cons=>rfl
  | _=>rfl
 | _=>rfl
theorem k4S {x:PySem.Str} (h:dbg x=false):(x==("__debug__" : PySem.Str))=false:=h
theorem qf (a:At prog w b0 os0 n Γ env ρ σ s A l) {A':Around} {i:Nat} {x:PySem.Str} {pos:Pos} {v:V} {R:Value→Shared→Prop} {E:Value→Shared→Prop} (ck:qX Γ i x=true) (e:ρ[i]?=some (some v))
  (h:∀ u,VR s.heap v u→R u s):wpAny (model prog w) A' (eval (.Name x pos) env) R E s:=by
 refine b3 ck fun c1 c2 c3=>?_
 replace c1:=eq_of_beq c1
 replace c2:=(Bool.not_eq_true' _).mp c2
 rcases Bool.or_eq_true_iff.1 c3 with c3 | c3
 ·have k:=a.kind.trans (eq_of_beq c3)
  exact x11 a.env_.locs fun m hn hm=>x11 (hm i x v c1 k e) fun u hu r=>wpAny_Name (wpAny_loadName_local a.kd k hn hu (h u r)) (k4S c2)
 ·have k:=a.kind.trans (eq_of_beq c3)
  exact x22 (a.env_.cells i x v c1 k e) fun c u hc hu r=>wpAny_Name (wpAny_loadName_cell a.kd k hc hu (h u r)) (k4S c2)
theorem k5u {h:Heap} {v:V} {u:Value} (e:vIs v u=true):VR h v u:=by
 cases v with
 | int i=>cases u <;> first | exact ⟨_,congrArg (Value.int · _) (eq_of_beq e).symm⟩ | injection e
 | str s=>cases u <;> first | exact ⟨_,congrArg (Value.str · _) (eq_of_beq e).symm⟩ | injection e
 | bytes s=>cases u <;> first | exact ⟨_,congrArg (Value.bytes · _) (eq_of_beq e).symm⟩ | injection e
 | ref a=>exact hs e fun b hb e=>by refine er (k0r hb) (er (Eq.symm (eq_of_beq e:a=b)) ?_);exact vrR
 | _=>injection e
variable (B:Ws Γ.K b0)
include B
theorem qi (a:At prog w b0 os0 n Γ env ρ σ s A l) {A':Around} {x:PySem.Str} {pos:Pos} {v:V} {R:Value→Shared→Prop} {E:Value→Shared→Prop} (ck:QU Γ v x=true)
  (h:∀ u,VR s.heap v u→(∀ a,v=.ref a→u=.ref a)→R u s):wpAny (model prog w) A' (eval (.Name x pos) env) R E s:=by
 refine b3 ck fun c1 c2 c3=>hs c3 fun o ho c3=>hs c3 fun u hu c3=>x41 B.T fun p loose mg mb T z9=>?_
 refine Name_function_global a.kd (a.kind.trans (eq_of_beq c2)) (loadGlobal_global ?_ (mg_of B.X T.g (ho.trans (congrArg some hu))) (h u (k5u c3) fun q e=>?_)) (k4S ((Bool.not_eq_true' _).mp c1))
 ·refine er a.env_.glob ?_;exact T.g.keeps fun b o e=>a.inv.stay b o e
 ·rw[e] at c3;exact k5u (h:=s.heap) c3
theorem k74 (f:BI):bootBuiltins f.nm=some f.v:=by cases f <;> decide +kernel
theorem k5Q (a:At prog w b0 os0 n Γ env ρ σ s A l) {f:BI} {x:PySem.Str} {pos:Pos} {R:Value→Shared→Prop} {E:Value→Shared→Prop} (ck:K1f Γ f x=true) (h:R f.v s) :
  wpAny (model prog w) A (eval (.Name x pos) env) R E s:=by
 refine b3 ck fun c1 c2 c3=>?_
 obtain rfl:=eq_of_beq c1
 replace c2:=eq_of_beq c2
 replace c3:=eq_of_beq c3
 refine x41 B.T fun p loose mg mb T z9=>?_
 have hn:f.nm ≠ "__name__" := by cases f <;> decide +kernel
 have hd:dbg f.nm=false:=by cases f <;> decide +kernel
 refine Name_function_global a.kd (a.kind.trans c2) (loadGlobal_builtin (mg:=mg) (mb:=mb) ?_ (mg_none_of B.X T.g c3) ?_ ((T.builtins _ hn).trans (k74 B f)) h) hd
 ·refine er a.env_.glob ?_;exact T.g.keeps fun b o e=>a.inv.stay b o e
 ·refine er a.env_.blt ?_;exact T.b.keeps fun b o e=>a.inv.stay b o e
end
noncomputable def zD (σ:Sto) (h:Heap) (src:Src) (u:Value):Prop :=
 (∃ v,VR h v u∧ZR v σ=some src)∨∃ r a b c t t' t'',u=.ref r∧IsRange h r a b c t t' t'' ∧ -1000≤a∧a≤1000000+1000 ∧ -1000000≤b∧b≤1000000∧0<c∧c≤1000∧src=⟨Kf a b c,none⟩
section
variable {prog:Program} {w:World} {b0:Heap} {os0:OsState} {l:List Env} {σ σ' σ₁ σ₂:Sto} {s s' s₁ s₂:Shared} {h h':Heap} {A:Around} {E:Value→Shared→Prop}
theorem k2z:bootBuiltins "range" = some (.type "range"):=by decide +kernel
theorem zQ (a b c:Int):(Kf a b c).length=if a<b then ((b-a-1)/c+1).toNat else 0:=by simp[Kf]
theorem DictOf.at {d:Addr} {ps:List (Key×Value)} (hd:h.DictOf (kB prog w) d ps):∃ ep,h.DictAt (kB prog w) d ps ep:=by
 refine x30 hd ?_;clear hd;intro o es ep r;exact ⟨ep,o,es,r⟩
theorem k91 {kvs:List (V×V)}:∀ {ps:List (Key×Value)} {i:Nat} {k:Key} {x v:Value},KvR h kvs ps→ps[i]?=some (k,x)→k.is v=true→∃ y,(kvs.map (·.1))[i]?=some y∧VR h y v:=by
 induction kvs with
 | nil=>intro ps i k x v r e;rw[r.nil_eq] at e;injection e
 | cons kv kvs ih =>
  intro ps i k x v r e z
  obtain ⟨kk,y⟩:=kv
  refine x33 r.cons_eq fun q u qs e0 e1 ru r=>?_
  rw[e0] at e
  cases i with
  | zero=>exact ⟨kk,rfl,by refine er e1 (er ((Prod.mk.inj (Option.some.inj e)).1) ?_);exact Key.vr_of z⟩
  | succ i=>exact ih r e z
theorem wV {o:Obj} {T:String} (e:o.cls=.type T) (h1:T ≠ "tuple" := by decide) (h2:T ≠ "function" := by decide) (h3:T ≠ "code" := by decide):¬ JS o:=by
 rintro (⟨vs,n,rfl⟩ | ⟨z,_⟩ | ⟨z,_⟩)
 ·simp at e;exact h1 e.symm
 ·rw[e] at z;simp at z;exact h2 z
 ·rw[e] at z;simp at z;exact h3 z
noncomputable def K0R:List String:=["enumerate","zip","dict_itemiterator","dict_reverseitemiterator","odict_iterator","itertools.zip_longest","itertools.pairwise"]
noncomputable def QIt (o:Obj):Prop:=¬ JS o∧∀ n,o.cls=.type n→K0R.contains n=false
theorem qit {o:Obj} {T:String} (e:o.cls=.type T) (h1:T ≠ "tuple" := by decide) (h2:T ≠ "function" := by decide) (h3:T ≠ "code" := by decide) (h4:K0R.contains T=false:=by decide):QIt o :=
 ⟨wV e h1 h2 h3,fun n h=>by rw[e] at h;injection h with h;subst h;exact h4⟩
noncomputable def ItK (prog:Program) (w:World) (A:Around) (s:Shared) (items:List V) (g:Option Addr) (R:Value→Shared→Prop):Prop :=
 ∀ o fp P St,(s.heap.push o).get? s.heap.objs.size=some o→Walks prog w A s.heap.objs.size fp [s.heap.objs.size] items.length P St→St 0 (s.heap.push o)→(∀ b∈fp,b=s.heap.objs.size∨g=some b∨∃ vs n,s.heap.get? b=some (Je vs n)) →
   (∀ i v,i<items.length→P i v→∃ y,items[i]?=some y∧VR s.heap y v)→(∀ i h,St i h→∃ o',h.get? s.heap.objs.size=some o'∧QIt o')→R (.ref s.heap.objs.size) { s with heap:=s.heap.push o }
section
variable {R:Value→Shared→Prop} {g:Option Addr}
theorem fp1 {a b:Addr} {P:Prop} (h:b∈[a]):b=a∨P:=.inl (List.mem_singleton.1 h)
theorem fp2 {a b c:Addr} {P:Prop} (h:b∈[a,c]) (p:b=c→P):b=a∨P:=(List.mem_cons.1 h).imp id fun h=>p (List.mem_singleton.1 h)
theorem UI {xs:List V} {vs:List Value} {i:Nat} {v:Value} (r1:VRs h xs vs) (hi:i<xs.length) (e:vs.toArray[i]?=some v):∃ y,xs[i]?=some y∧VR h y v :=
 x11 (r1.getD hi) fun v' e1 e2=>⟨xs.getD i .none,uf hi,Option.some.inj (e1.symm.trans ((List.getElem?_toArray ..).symm.trans e))▸e2⟩
theorem k6V (hA:A.handled=none) {cs:List Nat} {t:Tok} (k:ItK prog w A s (cs.map fun c=>.str [c]) g R):wpAny (model prog w) A (pyIter (.str (ke cs) t)) R E s:=by
 have hsz:(ke cs).cps.size=(cs.map fun c=>V.str [c]).length:=(List.length_map ..).symm
 have hit:∀ i v,i<(cs.map fun c=>V.str [c]).length→SignAt (ke cs) i v→∃ y,(cs.map fun c=>V.str [c])[i]?=some y∧VR s.heap y v:=by
  rintro i v _ ⟨c,u,hc,rfl⟩
  exact ⟨.str [c],by refine er (List.getElem?_map) (er ((List.getElem?_toArray ..).symm.trans hc) ?_);rfl,⟨u,rfl⟩⟩
 have W1:=Walks.strAscii (prog:=prog) (w:=w) (A:=A) hA s.heap.objs.size (ke cs) t
 have W2:=Walks.strWide (prog:=prog) (w:=w) (A:=A) hA s.heap.objs.size (ke cs) t
 rw[hsz] at W1 W2
 cases ha:(ke cs).cps.all (·<128) with
 | true=>exact wpAny_pyIter_ascii ha (k _ _ _ _ (Heap.get?_push_size _ rfl) W1 ⟨_,Heap.get?_push_size _ rfl,rfl,rfl⟩ (fun b hb=>fp1 hb) hit fun i h st=>x12 st fun o ho hc z9=>⟨o,ho,qit hc⟩)
 | false=>exact wpAny_pyIter_wide ha (k _ _ _ _ (Heap.get?_push_size _ rfl) W2 ⟨_,Heap.get?_push_size _ rfl,rfl,rfl⟩ (fun b hb=>fp1 hb) hit fun i h st=>x12 st fun o ho hc z9=>⟨o,ho,qit hc⟩)
theorem k7d (hA:A.handled=none) {cs:List UInt8} {t:Tok} (k:ItK prog w A s (cs.map fun c=>.int (c.toNat:Nat)) g R):wpAny (model prog w) A (pyIter (.bytes cs.toArray t)) R E s:=by
 have hsz:cs.toArray.size=(cs.map fun c=>V.int (c.toNat:Nat)).length:=(List.length_map ..).symm
 have W:=KBw.walks (prog:=prog) (w:=w) (A:=A) hA s.heap.objs.size cs.toArray t
 rw[hsz] at W
 refine KBw.pyIter_bytes (k _ _ _ _ (Heap.get?_push_size _ rfl) W ⟨_,Heap.get?_push_size _ rfl,rfl,rfl⟩ (fun b hb=>fp1 hb) ?_ fun i h st=>x12 st fun o ho hc z9=>⟨o,ho,qit hc⟩)
 rintro i v _ ⟨c,u,hc,rfl⟩
 exact ⟨.int (c.toNat:Nat),by refine er (List.getElem?_map) (er ((List.getElem?_toArray ..).symm.trans hc) ?_);rfl,⟨u,rfl⟩⟩
theorem k52 (hA:A.handled=none) {a:Addr} {xs:List V} {vs:List Value} {n:Nat} (h1:s.heap.get? a=some (KH vs n)) (r1:VRs s.heap xs vs) (k:ItK prog w A s xs (some a) R):wpAny (model prog w) A (pyIter (.ref a)) R E s:=by
 have hsz:vs.toArray.size=xs.length:=r1.length
 have W:=Walks.list (prog:=prog) (w:=w) (A:=A) hA s.heap.objs.size a (Nat.ne_of_lt (Heap.lt_size h1)) vs.toArray
 rw[hsz] at W
 exact wpAny_pyIter_list (kF h1) (k _ _ _ _ (Heap.get?_push_size _ rfl) W ⟨⟨_,Heap.get?_push_size _ rfl,rfl,rfl⟩,(kF h1).push _⟩ (fun b hb=>fp2 hb fun e=>.inl (congrArg some e.symm)) (fun i v hi hv=>UI r1 hi hv) fun i h st=>x12 st.1 fun o ho hc z9=>⟨o,ho,qit hc⟩)
theorem k6F (hA:A.handled=none) {a:Addr} {xs:List V} {vs:List Value} {n:Nat} (h1:s.heap.get? a=some (Je vs n)) (r1:VRs s.heap xs vs) (k:ItK prog w A s xs g R):wpAny (model prog w) A (pyIter (.ref a)) R E s:=by
 have hsz:vs.toArray.size=xs.length:=r1.length
 have W:=Walks.tuple (prog:=prog) (w:=w) (A:=A) hA s.heap.objs.size a (Nat.ne_of_lt (Heap.lt_size h1)) vs.toArray
 rw[hsz] at W
 exact wpAny_pyIter_tuple (KL h1) (k _ _ _ _ (Heap.get?_push_size _ rfl) W ⟨⟨_,Heap.get?_push_size _ rfl,rfl,rfl⟩,KL (Heap.get?_push_of_some _ h1)⟩ (fun b hb=>fp2 hb fun e=>.inr ⟨vs,n,e▸h1⟩) (fun i v hi hv=>UI r1 hi hv) fun i h st=>x12 st.1 fun o ho hc z9=>⟨o,ho,qit hc⟩)
theorem k7n (hA:A.handled=none) {a:Addr} (hm:(a==sysModules)=false) {kvs:List (V×V)} {ps:List (Key×Value)} (hd:s.heap.DictOf (kB prog w) a ps) (r:KvR s.heap kvs ps) (k:ItK prog w A s (kvs.map (·.1)) (some a) R):wpAny (model prog w) A (pyIter (.ref a)) R E s:=by
 obtain ⟨ep,hda⟩:=DictOf.at hd
 have hne:a≠s.heap.objs.size:=x21 hda fun o z9 ho z9=>Nat.ne_of_lt (Heap.lt_size ho)
 have hpl:ps.length=(kvs.map (·.1)).length:=(Js r).trans (List.length_map ..).symm
 have st0:(s.heap.push { cls:=.type "dict_keyiterator",data:=.fields #[.ref a,.int 0 0,.int ps.length 0,.int ep 0] }).IsKeyIter s.heap.objs.size a 0 ps.length ep∧(s.heap.push { cls:=.type "dict_keyiterator",data:=.fields #[.ref a,.int 0 0,.int ps.length 0,.int ep 0] }).DictAt (kB prog w) a ps ep :=
  ⟨⟨_,Heap.get?_push_size _ rfl,rfl,rfl⟩,hda.at' fun o e=>Heap.get?_push_of_some _ e⟩
 have W:=Walks.dictKeys (prog:=prog) (w:=w) (A:=A) (knd:=kB prog w) hA s.heap.objs.size a hne ps ep
 unfold ItK at k
 rw[← hpl] at k
 exact wpAny_pyIter_dict hm hda (k _ _ _ _ (Heap.get?_push_size _ rfl) W st0 (fun b hb=>fp2 hb fun e=>.inl (congrArg some e.symm)) (fun i v z9 hv=>x21 hv fun kk y h1 h2=>k91 r h1 h2) fun i h st=>x12 st.1 fun o ho hc z9=>⟨o,ho,qit hc⟩)
theorem k6K (hA:A.handled=none) {rr:Addr} {a b c:Int} {t t' t'':Tok} (hr:IsRange s.heap rr a b c t t' t'') (h1 : -1000≤a) (h2:a≤1000000+1000) (h3 : -1000000≤b) (h4:b≤1000000) (h5:0<c) (h6:c≤1000) (k:ItK prog w A s (Kf a b c) none R):wpAny (model prog w) A (pyIter (.ref rr)) R E s:=by
 have hn:∃ m:Nat,(Kf a b c).length=m∧m≤3000000∧Builtin.Range.rangeSize a b c=(m:Int):=by
  refine ⟨_,rfl,?_⟩
  refine er (zQ _ _ _) ?_
  unfold Builtin.Range.rangeSize
  rw[if_pos (show c>0 from h5)]
  by_cases z:a<b
  ·have z0:0≤b-a-1:=Int.le_sub_one_of_lt (Int.sub_pos_of_lt z)
   have q1:=Int.ediv_le_self (a:=b-a-1) c z0
   have q2:=Int.ediv_nonneg (a:=b-a-1) (b:=c) z0 (Int.le_of_lt h5)
   rw[if_pos z]
   exact ⟨Int.toNat_le.2 (Int.le_trans (Int.add_le_add_right q1 1) (by omega)),(if_pos z).trans (Int.toNat_of_nonneg (Int.add_nonneg q2 Int.one_nonneg)).symm⟩
  ·rw[if_neg z,if_neg z];exact ⟨by decide,rfl⟩
 refine x12 hn fun m e hb hrs=>?_
 have hsm:Builtin.Range.small a b c=true:=by
  unfold Builtin.Range.small Builtin.Range.rangeFitsLong
  refine er hrs ?_
  simp only[Bool.and_eq_true,decide_eq_true_eq,Bool.or_eq_true,beq_iff_eq]
  refine ⟨⟨⟨⟨⟨?_,?_⟩,?_,?_⟩,?_,?_⟩,?_,?_⟩,.inr ?_⟩
  case' refine_9=>rw[if_pos (show c>0 from h5)];simp only[Bool.and_eq_true,decide_eq_true_eq]
  all_goals first | exact Int.le_trans (b := -1000) (by decide) h1 | exact Int.le_trans h2 (by decide) | exact Int.le_trans (b := -1000000) (by decide) h3 | exact Int.le_trans h4 (by decide) | exact Int.le_trans h6 (by decide) | exact Int.le_trans (b:=0) (by decide) (Int.le_of_lt h5) | exact Int.ne_of_gt h5 | lia
 refine wpAny_pyIter_range hr hsm (k _ _ _ _ (Heap.get?_push_size _ rfl) (Walks.range (prog:=prog) (w:=w) (A:=A) hA s.heap.objs.size a c (Kf a b c).length) ?_ (fun b hb=>fp1 hb) ?_ fun i h st=>⟨_,st,qit rfl⟩)
 ·show IsRangeIter _ s.heap.objs.size (a+((0:Nat):Int)*c) (((Kf a b c).length:Int)-((0:Nat):Int)) c
  refine er hrs ?_;refine er e ?_;refine er Int.natCast_zero ?_;refine er (Int.zero_mul _) ?_;refine er (Int.add_zero _) ?_;refine er (Int.sub_zero _) ?_
  exact Heap.get?_push_size _ rfl
 ·rintro i v hi ⟨t,rfl⟩
  rw[zQ] at hi
  exact ⟨.int (a+(i:Nat)*c),by unfold Kf;refine er (List.getElem?_map) (er (List.getElem?_range hi) ?_);rfl,⟨t,rfl⟩⟩
end
theorem k2a {a:Addr} {src:Src} (e:ZR (.ref a) σ=some src) {G:Prop} (k1:∀ xs,σ.get a=some (.list xs)→⟨xs,some a⟩=src→G) (k2:∀ kvs,σ.get a=some (.dict kvs)→⟨kvs.map (·.1),some a⟩=src→G):G:=by
 replace e:(match asL (σ.get a) with
  | some xs=>if xs.length≤kt then some ⟨xs,some a⟩ else none
  | none=>(asD (σ.get a)).bind fun kvs=>if kvs.length≤kt then some ⟨kvs.map (·.1),some a⟩ else none)=some src:=e
 cases ha:asL (σ.get a) with
 | some xs=>rw[ha] at e;exact op e fun z9 e=>k1 xs (YW ha) e
 | none=>rw[ha] at e;exact ob e fun kvs hk e=>op e fun z9 e=>k2 kvs (Zc hk) e
theorem Zm (hA:A.handled=none) (I:Inv prog w b0 os0 l σ s) (H:qY b0) {src:Src} {u:Value} (x:zD σ s.heap src u) {R:Value→Shared→Prop} (k:ItK prog w A s src.items src.guard R) :
  wpAny (model prog w) A (pyIter u) R E s:=by
 rcases x with ⟨v,r,e⟩ | ⟨rr,a,b,c,t,t',t'',rfl,hr,h1,h2,h3,h4,h5,h6,rfl⟩
 ·cases v with
  | str cs=>obtain ⟨t,rfl⟩:=r;obtain rfl:=Option.some.inj e;exact k6V hA k
  | bytes cs=>obtain ⟨t,rfl⟩:=r;obtain rfl:=Option.some.inj e;exact k7d hA k
  | tup xs=>obtain rfl:=Option.some.inj e;exact x32 r fun a n vs e h1 r1=>e▸k6F hA h1 r1 k
  | ref a =>
   obtain rfl:=r
   refine k2a e (fun xs ha e=>x21 (qz I ha) fun vs n h1 r1=>?_) fun kvs ha e=>x11 (I.own _ _ ha) fun ps hd r=>?_
   ·subst e;exact k52 hA h1 r1 k
   ·subst e;exact k7n hA (I.notMods H (jx ha)) hd r k
  | _=>injection e
 ·exact k6K hA hr h1 h2 h3 h4 h5 h6 k
end
section
variable {prog:Program} {w:World} {b0:Heap} {os0:OsState} {l:List Env} {σ σ' σ₀ σ₁ σ₂:Sto} {s s' s₀ s₁ s₂:Shared} {h h':Heap} {A:Around} {E:Value→Shared→Prop} {env:Env}
theorem Inv.poke (I:Inv prog w b0 os0 l σ s) {a:Addr} {tk:Tok} (n0:b0.get? a=none) (nI:¬ σ.has a) (fI:a∉frs l) (ns:∀ o,s.heap.get? a=some o→¬ JS o) (k:∀ b o,b≠a→s.heap.get? b=some o→h'.get? b=some o) :
  Inv prog w b0 os0 l σ { s with heap:=h',toks:=tk }:=by
 have T:KW s.heap h':=fun b o st e=>k b o (fun z=>by subst z;exact ns o e st) e
 refine ⟨fun b c q=>(I.own b c q).of_get T fun o r=>k b o (fun z=>nI (by rw[← z];rw[Sto.has,q];simp)) r,fun b o q=>k b o (fun z=>by rw[z,n0] at q;injection q) (I.stay b o q),I.off,?_,I.offF,fun b q=>?_,I.gens,I.os⟩
 ·have:∀ m:List Env,a∉frs m→s.heap.FunFrames b0 m→h'.FunFrames b0 m:=by
   intro m
   induction m with
   | nil=>intro z9 z9;trivial
   | cons env r ih =>
    rintro h1 ⟨hk,⟨L,oL,hf,hn,ho,hd⟩,hr⟩
    have hL:L≠a:=fun z=>h1 (by simp[frs,List.filterMap_cons,hf,z])
    refine ⟨hk,⟨L,oL,hf,hn,k _ _ hL ho,hd⟩,ih (fun z=>h1 ?_) hr⟩
    rw[frs,List.filterMap_cons,hf];exact List.mem_cons_of_mem _ z
  exact this l fI I.frames
 ·refine x31 (I.frD b q) fun o' es n r d=>?_
  exact ⟨o',es,n,k _ _ (fun z=>fI (z▸q)) r,d⟩
theorem kQ.poke (I0:Inv prog w b0 os0 l σ₀ s₀) (T:kQ prog w b0 os0 l σ₀ s₀ σ s) {a:Addr} {tk:Tok} (n0:s₀.heap.get? a=none) (nI:¬ σ.has a) (fI:a∉frs l) (ns:∀ o,s.heap.get? a=some o→¬ JS o)
  (k:∀ b o,b≠a→s.heap.get? b=some o→h'.get? b=some o):kQ prog w b0 os0 l σ₀ s₀ σ { s with heap:=h',toks:=tk }:=by
 have nb:b0.get? a=none:=by
  cases z:b0.get? a with
  | none=>rfl
  | some o=>have:=I0.stay a o z;rw[n0] at this;injection this
 refine x11 T.pre fun pre e x=>?_
 refine ⟨T.inv.poke nb nI fI ns k,⟨pre,e,fun b o hb n=>?_⟩,T.dom⟩
 have hba:b≠a:=fun z=>by rw[z,n0] at hb;injection hb
 refine bc fun zg=>?_
 obtain ⟨x1,sl,x2⟩:=x b o hb n
 refine zg ?_;clear zg
 exact ⟨fun q=>k _ _ hba (x1 q),sl,k _ _ hba x2⟩
theorem jl {a:Addr} (ns:∀ o,h.get? a=some o→¬ JS o) (k:∀ b o,b≠a→h.get? b=some o→h'.get? b=some o):KW h h':=fun b o st e=>k b o (fun z=>by subst z;exact ns o e st) e
theorem kQ.free (S:kQ prog w b0 os0 l σ s σ' s') {a:Addr} {o:Obj} (e:s.heap.get? a=some o) (nI:¬ σ.has a) (fI:a∉frs l):s'.heap.get? a=some o∧¬ σ'.has a :=
 ⟨(S.ext a o e nI).1 fI,S.dom.not e nI⟩
theorem kQ.unt (S:kQ prog w b0 os0 l σ s σ' s') {a:Addr} {o:Obj} (u:Unt a σ σ') (e:s.heap.get? a=some o) (fI:a∉frs l):s'.heap.get? a=some o:=by
 refine x11 S.pre fun pre e1 x=>?_
 refine x11 u ?_;clear u;intro pre' e2 n
 have:pre=pre':=List.append_cancel_right (e1.symm.trans e2)
 subst this
 exact (x a o e n).1 fI
theorem WK:∀ (names:List (PySem.Str×NameKind)) (acc:List (PySem.Str×Addr)),(∀ p∈names,p.2=.free→∃ c,env.cells.lookup p.1=some c) →
  ∃ cl,(forIn names acc (fun (x:PySem.Str×NameKind) (cs:List (PySem.Str×Addr))=>(do if x.2==.free then let c ← cellOf env x.1;pure (ForInStep.yield ((x.1,c)::cs)) else pure (ForInStep.yield cs):Sem (ForInStep (List (PySem.Str×Addr))))):Sem _)=pure (cl++acc) ∧
   (∀ p∈cl,env.cells.lookup p.1=some p.2)∧∀ y,(y,NameKind.free)∈names→y∈cl.map (·.1)
 | [],acc,_=>⟨[],rfl,fun p hp=>by simp at hp,fun y m=>by simp at m⟩
 | (n,kd)::r,acc,hc=>by
  rw[List.forIn_cons]
  by_cases z:kd=.free
  ·subst z
   obtain ⟨c,e⟩:=hc (n,.free) (by simp) rfl
   have ec:cellOf env n=pure c:=by unfold cellOf;rw[e]
   refine x12 (WK r ((n,c)::acc) fun p hp=>hc p (by simp[hp])) fun cl e1 e2 e3=>?_
   refine ⟨cl++[(n,c)],?_,fun p hp=>?_,fun y hy=>?_⟩
   ·simp only[beq_self_eq_true,if_true,ec,pure_bind]
    rw[List.append_assoc];exact e1
   ·rcases List.mem_append.mp hp with q | q
    ·exact e2 p q
    ·simp at q;subst q;exact e
   ·rw[List.map_append,List.mem_append]
    rcases List.mem_cons.mp hy with q | q
    ·right;simpa using congrArg Prod.fst q
    ·exact .inl (e3 y q)
  ·refine x12 (WK r acc fun p hp=>hc p (by simp[hp])) fun cl e1 e2 e3=>?_
   refine ⟨cl,?_,e2,fun y hy=>e3 y ?_⟩
   ·have:(kd==NameKind.free)=false:=by simp[z]
    simp only[this,Bool.false_eq_true,if_false,pure_bind]
    exact e1
   ·rcases List.mem_cons.mp hy with q | q
    ·exact (z (by simpa using congrArg Prod.snd q.symm)).elim
    ·exact q
theorem wz {α:Type} {y:PySem.Str}:∀ {cl:List (PySem.Str×α)},y∈cl.map (·.1)→∃ c,cl.lookup y=some c∧(y,c)∈cl
 | [],m=>by simp at m
 | (n,c)::r,m=>by
  by_cases z:y=n
  ·subst z;exact ⟨c,by simp[List.lookup_cons],by simp⟩
  ·simp only[List.map_cons,List.mem_cons] at m
   refine x11 (wz (m.resolve_left z)) fun c' e1 e2=>?_
   have:(y==n)=false:=by simp[z]
   exact ⟨c',by simp only[List.lookup_cons,this];exact e1,by simp[e2]⟩
theorem jJ {α:Type} {y:PySem.Str} {c:α}:∀ {cl:List (PySem.Str×α)},cl.lookup y=some c→(y,c)∈cl
 | [],e=>by simp at e
 | (n,d)::r,e=>by
  simp only[List.lookup_cons] at e
  split at e
  ·rename_i z;injection e with e;subst e;refine er (eq_of_beq z) ?_;simp
  ·exact List.mem_cons_of_mem _ (jJ e)
theorem ZJ {sc:Scope} (hc:∀ p∈sc.names,p.2=.free→∃ c,env.cells.lookup p.1=some c) :
  ∃ cl,closureFor sc env=pure cl∧(∀ y c,cl.lookup y=some c→env.cells.lookup y=some c)∧∀ y,(y,NameKind.free)∈sc.names→∃ c,cl.lookup y=some c:=by
 refine x12 (WK (env:=env) sc.names [] hc) fun cl e1 e2 e3=>?_
 refine ⟨cl,?_,fun y c e=>e2 _ (jJ e),fun y m=>?_⟩
 ·unfold closureFor
  have:∀ (x:PySem.Str×NameKind) (cs:List (PySem.Str×Addr)),True:=fun z9 z9=>trivial
  simp only[List.append_nil] at e1
  refine Eq.trans ?_ e1
  simp only[bind_pure]
 ·refine x11 (wz (e3 y m)) fun c h1 z9=>?_
  exact ⟨c,h1⟩
end
section
variable {prog:Program} {w:World} {b0:Heap} {os0:OsState} {call:jH} {init:Addr→Option Addr} {n:Nat} {Γ:Ctx} {env:Env} {ρ:Loc} {σ σ' σ₀ σ₁:Sto} {s s' s₀ s₁:Shared} {A:Around} {l:List Env} {h h':Heap}
variable (prog w b0 os0 call init n) in
noncomputable def SI (Γ:Ctx) (it:IT) (e:Expr):Prop:=∀ {env ρ σ s A l Q X},At prog w b0 os0 n Γ env ρ σ s A l→evI call init it ρ σ Q X →
 wpAny (model prog w) A (eval e env) (fun u s'=>∃ src σ',kQ prog w b0 os0 l σ s σ' s'∧zD σ' s'.heap src u∧Q src σ') (PX prog w b0 os0 l σ s X) s
set_option tactic.hygienic true in
theorem k4E:∀ {caps:List Nat} {xs:List PySem.Str} {j:Nat} {y:PySem.Str},qe Γ caps=some xs→xs[j]?=some y→∃ i,caps[j]?=some i∧Γ.vars[i]?=some y
 | [],xs,j,y,e,q=>by cases e;simp at q
 | i::r,xs,j,y,e,q=>by
  replace e:(match Γ.vars[i]?,qe Γ r with | some x,some xs=>some (x::xs) | _,_=>none)=some xs:=e
  cases e1:Γ.vars[i]? with
  | none=>rw[e1] at e;injection e
  | some x =>
   cases e2:qe Γ r with
   | none=>rw[e1,e2] at e;injection e
   | some xs' =>
    rw[e1,e2] at e
    obtain rfl:=Option.some.inj e
    cases j with
    | zero=>exact ⟨i,rfl,q▸e1⟩
    | succ j=>exact k4E (caps:=r) (j:=j) e2 q
theorem zP (a:At prog w b0 os0 n Γ env ρ σ s A l) {sc:Scope} {cl:List (PySem.Str×Addr)} {C:Addr}:(compEnvC sc cl C env).scope.names=jr Γ.names sc:=by
 show (relabel sc env).names=_
 unfold relabel jr
 simp only
 apply List.map_congr_left
 rintro ⟨nm,k⟩ _
 have e1:(env.scope.kind==ScopeKind.function)=true:=by refine er a.kd ?_;rfl
 have e2:env.kindOf nm=Γ.names.lookup nm:=a.kind
 simp only[e1,e2]
theorem k4n {outer:List (PySem.Str×NameKind)} {sc:Scope} {y:PySem.Str} (e:(jr outer sc).lookup y=some .cell) (hs:∀ p∈sc.names,p.2≠.cell):(y,NameKind.free)∈sc.names∧outer.lookup y=some .cell:=by
 have m:=jJ e
 unfold jr at m
 refine x11 (List.mem_map.mp m) fun zn0 hm q=>?_;obtain ⟨nm,k⟩:=zn0
 dsimp only at q
 split at q
 ·rename_i z
  simp only[Bool.and_true,Bool.and_eq_true,beq_iff_eq] at z
  injection q with q;subst q
  obtain ⟨rfl,z2⟩:=z
  exact ⟨hm,z2⟩
 ·cases q
  exact (hs _ hm rfl).elim
theorem k66 (a:At prog w b0 os0 n Γ env ρ σ s A l) {caps:List Nat} {x:PySem.Str} {xs:List PySem.Str} {sc:Scope} {cl:List (PySem.Str×Addr)} {C:Addr} {m:PySem.Str→Option Value} {v:V} {u:Value}
  (c1:sc.kind=.function) (c2:sc.names.lookup x=some .local) (c3:∀ p∈sc.names,p.2≠.cell) (hcaps:qe Γ caps=some xs) (hcell:∀ y∈xs,(jr Γ.names sc).lookup y=some .cell)
  (hcl:∀ y c,cl.lookup y=some c→env.cells.lookup y=some c) (hcl2:∀ y,(y,NameKind.free)∈sc.names→∃ c,cl.lookup y=some c)
  (hn:s.heap.Ns C m) (hm:m x=some u) (ru:VR s.heap v u) (nC:¬ σ.has C) :
  At prog w b0 os0 n (jZ Γ x xs sc) (compEnvC sc cl C env) (some v::caps.map fun i=>(ρ[i]?).join) σ s A l:=by
 have hk:∀ y,(compEnvC sc cl C env).kindOf y=(jr Γ.names sc).lookup y:=fun y=>by unfold Env.kindOf;exact er (zP a) rfl
 have hx:(compEnvC sc cl C env).kindOf x=some .local:=lookup_relabel_local c2
 have ne:∀ y∈xs,y≠x:=fun y hy z=>by
  have:=hcell y hy
  rw[z,← hk,hx] at this;cases this
 refine ⟨zP a,⟨c1,a.env_.glob,a.env_.blt,⟨m,hn,fun i y av h1 h2 h3=>?_⟩,fun i y av h1 h2 h3=>?_,fun y hy=>?_,fun y hy=>?_,nC,fun y c e=>a.env_.offC y c (hcl y c e)⟩,a.inv,a.room,a.tab⟩
 ·cases i with
  | zero =>
   simp only[jZ,List.getElem?_cons_zero,Option.some.injEq] at h1 h3
   subst h1 h3
   exact ⟨u,hm,ru⟩
  | succ j =>
   simp only[jZ,List.getElem?_cons_succ] at h1
   have:=hcell y (List.mem_of_getElem? h1)
   rw[← hk,h2] at this;cases this
 ·cases i with
  | zero =>
   simp only[jZ,List.getElem?_cons_zero,Option.some.injEq] at h1
   subst h1
   rw[hx] at h2;cases h2
  | succ j =>
   refine bc fun zg=>?_
   simp only[jZ,List.getElem?_cons_succ] at h1 h3
   refine x11 (k4E hcaps h1) fun i e1 e2=>?_
   rw[List.getElem?_map,e1] at h3
   simp only[Option.map_some,Option.some.injEq] at h3
   have h3':ρ[i]?=some (some av):=by
    cases q:ρ[i]? with
    | none=>rw[q] at h3;simp at h3
    | some o=>rw[q] at h3;simp at h3;exact er h3 rfl
   have hin:=hcell y (List.mem_of_getElem? h1)
   obtain ⟨hf,ho⟩:=k4n hin c3
   refine x22 (a.env_.cells i y av e2 (a.kind.trans ho) h3') fun c u' e3 e4 e5=>?_
   obtain ⟨c',e6⟩:=hcl2 y hf
   have:=hcl y c' e6
   rw[e3] at this;injection this with this;subst this
   refine zg ?_;clear zg
   exact ⟨c,u',e6,e4,e5⟩
 ·simp only[jZ,List.mem_cons] at hy
  rcases hy with rfl | hy
  ·exact .inl hx
  ·exact .inr ((hk y).trans (hcell y hy))
 ·obtain ⟨hf,_⟩:=k4n ((hk y).symm.trans hy) c3
  exact hcl2 y hf
end
section
variable {prog:Program} {w:World} {b0:Heap} {os0:OsState} {call:jH} {init:Addr→Option Addr} {n:Nat} {Γ:Ctx} {env:Env} {ρ:Loc} {σ σ' σ₀ σ₁:Sto} {s s' s₀ s₁:Shared} {A:Around} {l:List Env} {h h':Heap}
theorem kQ.adopt (I0:Inv prog w b0 os0 l σ₀ s₀) (T:kQ prog w b0 os0 l σ₀ s₀ σ s) {a:Addr} {c:yO} (n0:s₀.heap.get? a=none) (nI:¬ σ.has a) (fI:a∉frs l) (e:qT prog w s.heap a c) :
  kQ prog w b0 os0 l σ₀ s₀ (σ.upd a c) s:=by
 have nb:b0.get? a=none:=by
  cases z:b0.get? a with
  | none=>rfl
  | some o=>have:=I0.stay a o z;rw[n0] at this;injection this
 have hb:∀ b,(σ.upd a c).has b→b=a∨σ.has b:=fun b q=>by
  by_cases z:a=b
  ·exact .inl z.symm
  ·right;simpa [Sto.has,z] using q
 refine x11 T.pre fun pre ep x=>?_
 refine ⟨⟨fun b c' q=>?_,T.inv.stay,fun b q=>?_,T.inv.frames,fun b q=>?_,T.inv.frD,T.inv.gens,T.inv.os⟩,⟨(a,c)::pre,by refine er ep ?_;rfl,x.mono fun b m=>by simp only[List.map_cons,List.mem_cons];exact .inr m⟩,fun b q=>?_,fun b q=>?_⟩
 ·by_cases z:a=b
  ·subst z;simp at q;subst q;exact e
  ·simp[z] at q;exact T.inv.own b c' q
 ·rcases hb b q with rfl | q
  ·exact nb
  ·exact T.inv.off b q
 ·rcases hb b q with rfl | q
  ·exact fI
  ·exact T.inv.offF b q
 ·by_cases z:a=b
  ·subst z;simp[Sto.has]
  ·simpa [Sto.has,z] using T.dom.1 b q
 ·rcases hb b q with rfl | q
  ·exact .inr n0
  ·exact T.dom.2 b q
theorem qj {src:Src} {u:Value} {g:Addr} (I:Inv prog w b0 os0 l σ s) (x:zD σ s.heap src u) (e:src.guard=some g):σ.has g∧∃ o,s.heap.get? g=some o:=by
 rcases x with ⟨v,r,q⟩ | ⟨_,_,_,_,_,_,_,_,_,_,_,_,_,_,_,rfl⟩
 ·have hh:σ.has g:=by
   cases v with
   | str=>rw[← Option.some.inj q] at e;injection e
   | bytes=>rw[← Option.some.inj q] at e;injection e
   | tup=>rw[← Option.some.inj q] at e;injection e
   | ref a=>exact k2a q (fun xs ha q=>by rw[← q] at e;exact Option.some.inj e▸jx ha) fun kvs ha q=>by rw[← q] at e;exact Option.some.inj e▸jx ha
   | _=>injection q
  exact ⟨hh,I.has_there hh⟩
 ·injection e
structure wW (prog:Program) (w:World) (b0:Heap) (os0:OsState) (l:List Env) (σ₁:Sto) (s₁:Shared) (src:Src) (Ia:Addr) (St:Nat→Heap→Prop) (i:Nat) (σ:Sto) (s:Shared):Prop where
 T:kQ prog w b0 os0 l σ₁ s₁ σ s
 nI:¬ σ.has Ia
 st:(∀ g,src.guard=some g→s.heap.get? g=s₁.heap.get? g)→St i s.heap
 there:∃ o,s.heap.get? Ia=some o
theorem wW.same {src:Src} {Ia:Addr} {St:Nat→Heap→Prop} {i:Nat} (I1:Inv prog w b0 os0 l σ₁ s₁) {u:Value} (x:zD σ₁ s₁.heap src u) (G:wW prog w b0 os0 l σ₁ s₁ src Ia St i σ s) (u:jF src.guard σ₁ σ) :
  ∀ g,src.guard=some g→s.heap.get? g=s₁.heap.get? g:=by
 intro g e
 obtain ⟨hh,o,ho⟩:=qj I1 x e
 rw[e] at u
 refine er ho ?_
 exact G.T.unt u ho (I1.offF g hh)
theorem wW.step {src:Src} {Ia:Addr} {St:Nat→Heap→Prop} {i:Nat} {fp:List Addr} {nn:Nat} {P:Nat→Value→Prop} (I1:Inv prog w b0 os0 l σ₁ s₁) {u:Value} (x:zD σ₁ s₁.heap src u) (W:Walks prog w A Ia fp [Ia] nn P St)
  (hfp:∀ b∈fp,b=Ia∨src.guard=some b∨∃ vs n,s₁.heap.get? b=some (Je vs n)) (fI:Ia∉frs l) (G:wW prog w b0 os0 l σ₁ s₁ src Ia St i σ s) (sm:∀ g,src.guard=some g→s.heap.get? g=s₁.heap.get? g)
  (S:kQ prog w b0 os0 l σ s σ' s'):wW prog w b0 os0 l σ₁ s₁ src Ia St i σ' s':=by
 refine bc fun zg=>?_
 obtain ⟨o,ho⟩:=G.there
 obtain ⟨k1,k2⟩:=S.free ho G.nI fI
 refine zg ?_;clear zg
 refine ⟨G.T.trans S,k2,fun sm'=>W.frame _ _ _ (G.st sm) fun b hb o' e=>?_,o,k1⟩
 rcases hfp b hb with rfl | hg | ⟨vs,m,ht⟩
 ·rw[ho] at e;injection e with e;subst e;exact k1
 ·refine er (sm' b hg) (er (Eq.symm (sm b hg)) ?_);exact e
 ·have e1:=G.T.tupKeep I1 _ _ .tup ht
  rw[e1] at e;injection e with e;subst e
  exact S.tupKeep G.T.inv _ _ .tup e1
theorem wW.poke {src:Src} {Ia:Addr} {St:Nat→Heap→Prop} {i:Nat} {fp:List Addr} {nn:Nat} {P:Nat→Value→Prop} (I1:Inv prog w b0 os0 l σ₁ s₁) {u:Value} (x:zD σ₁ s₁.heap src u) (W:Walks prog w A Ia fp [Ia] nn P St)
  (hfp:∀ b∈fp,b=Ia∨src.guard=some b∨∃ vs n,s₁.heap.get? b=some (Je vs n)) (G:wW prog w b0 os0 l σ₁ s₁ src Ia St i σ s) (sm:∀ g,src.guard=some g→s.heap.get? g=s₁.heap.get? g)
  {a:Addr} {tk:Tok} (ne:a≠Ia) (n0:s₁.heap.get? a=none) (nI:¬ σ.has a) (fI:a∉frs l) (ns:∀ o,s.heap.get? a=some o→¬ JS o) (k:∀ b o,b≠a→s.heap.get? b=some o→h'.get? b=some o) :
  wW prog w b0 os0 l σ₁ s₁ src Ia St i σ { s with heap:=h',toks:=tk }:=by
 obtain ⟨o,ho⟩:=G.there
 have T':=kQ.poke I1 G.T (tk:=tk) n0 nI fI ns k
 refine ⟨T',G.nI,fun sm'=>W.frame _ _ _ (G.st sm) fun b hb o' e=>?_,o,k _ _ ne.symm ho⟩
 rcases hfp b hb with rfl | hg | ⟨vs,m,ht⟩
 ·exact k _ _ ne.symm e
 ·obtain ⟨_,og,hog⟩:=qj I1 x hg
  exact k _ _ (fun z=>by rw[z,n0] at hog;injection hog) e
 ·exact k _ _ (fun z=>by rw[z,n0] at ht;injection ht) e
theorem UJ {α:Type} {xs:List α} {i:Nat} {y:α} (e:xs[i]?=some y):xs.drop i=y::xs.drop (i+1):=by
 obtain ⟨hlt,e⟩:=List.getElem?_eq_some_iff.mp e
 refine er (Eq.symm e) ?_;exact List.drop_eq_getElem_cons hlt
end
section
variable {prog:Program} {w:World} {b0:Heap} {os0:OsState} {call:jH} {init:Addr→Option Addr} {n:Nat} {Γ:Ctx} {env:Env} {ρ:Loc} {σ σ' σ₀ σ₁:Sto} {s s' s₀ s₁:Shared} {A:Around} {l:List Env} {h h':Heap}
theorem K1Y {v:Value} {s':Shared} (p:PX prog w b0 os0 l σ s (fun z9 z9=>False) v s'):False:=by
 refine x23 p ?_;clear p;intro z9 z9 z9 z9 z9 q;exact q
variable (prog w b0 os0 call init n) in
noncomputable def SC (Γ:Ctx) (cond:Option IE) (ifs:List Expr):Prop:=match cond,ifs with
 | none,[]=>True
 | some c,[t]=>SB prog w b0 os0 call init n Γ c t
 | _,_=>False
theorem UX {cond:Option IE} {ifs:List Expr} (hC:SC prog w b0 os0 call init n Γ cond ifs) (a:At prog w b0 os0 n Γ env ρ σ s A l) {Q:Bool→Sto→Prop} (q:evC call init cond ρ σ Q) {E:Value→Shared→Prop} {R:Bool→Shared→Prop}
  (k:∀ b σ' s',kQ prog w b0 os0 l σ s σ' s'→Q b σ'→R b s') :
  wpAny (model prog w) A (forIn ifs true fun c r=>if r=true then do let ok ← isTrue c env (eval c env);pure (ForInStep.yield ok) else pure (ForInStep.yield r)) R E s:=by
 cases cond with
 | none =>
  cases ifs with
  | nil=>exact er List.forIn_nil (wpAny_pure (k _ _ _ (.refl a.inv) q))
  | cons=>exact hC.elim
 | some c =>
  cases ifs with
  | nil=>exact hC.elim
  | cons t r =>
   cases r with
   | cons=>exact hC.elim
   | nil =>
    rw[List.forIn_cons,if_pos rfl]
    refine wpAny_bind (wpAny_bind (wpAny_mono (hC a q) (fun b s' p=>x11 p fun σ' S qq=>?_) fun z9 z9 p=>(K1Y p).elim))
    refine wpAny_pure ?_
    show wpAny _ _ (forIn [] b _) _ _ _
    exact er List.forIn_nil (wpAny_pure (k _ _ _ S qq))
theorem Qh {g:Option Addr} {turn:V→Sto→(Option V→Sto→Prop)→Prop} {xs acc:List V} {Q:QV} (q:Kv g σ₀ turn xs acc σ Q):jF g σ₀ σ:=by cases xs <;> exact q.1
theorem JE {h:Heap} {a:Addr} {m:PySem.Str→Option Value} (n:h.Ns a m):∀ o,h.get? a=some o→¬ JS o:=fun o' e=>x32 n fun oc es ep hoc hdc z9=>by
 refine er (Eq.symm (Option.some.inj (hoc.symm.trans e))) ?_
 rintro (⟨_,_,z⟩ | ⟨_,_,z⟩ | ⟨_,_,z⟩)
 ·rw[z] at hdc;injection hdc
 ·rw[hdc] at z;injection z
 ·rw[hdc] at z;injection z
theorem k6m {h:Heap} {a:Addr} {m:PySem.Str→Option Value} (n:h.Ns a m):∃ o,h.get? a=some o:=x31 n fun o z9 z9 e z9=>⟨o,e⟩
theorem JF (I:Inv prog w b0 os0 l σ s) {z:Addr} (e:s.heap.get? z=none):z∉frs l:=fun m=>x31 (I.frD z m) fun o z9 z9 h z9=>by rw[e] at h;injection h
theorem k0p {outer:List (PySem.Str×NameKind)} {x:PySem.Str} {sc:Scope} (h:wt outer x sc=true) {G:Prop} (k:sc.kind=.function→sc.names.lookup x=some .local→(∀ p∈sc.names,p.2≠.cell)→(∀ p∈sc.names,p.2=.local→sc.names.lookup p.1=some .local)→(∀ p∈sc.names,p.2=.free→outer.lookup p.1=some .cell)→G):G :=
 b3 h fun k1 k2 k3=>by
  replace k3:=List.all_eq_true.1 k3
  exact k (eq_of_beq k1) (eq_of_beq k2) (fun p hp=>b3 (k3 p hp) fun z z9 z9=>bne_iff_ne.1 z) (fun p hp e=>b3 (k3 p hp) fun z9 z z9=>(Bool.or_eq_true_iff.1 z).elim (fun z=>absurd e (bne_iff_ne.1 z)) eq_of_beq)
   fun p hp e=>b3 (k3 p hp) fun z9 z9 z=>(Bool.or_eq_true_iff.1 z).elim (fun z=>absurd e (bne_iff_ne.1 z)) eq_of_beq
theorem k4g {elt target iter:Expr} {ifs:List Expr} {scope:Scope} {pos:Pos} {Ia:Addr} {acc:Value} {fp:List Addr} {n:Nat} {P:Nat→Value→Prop} {St:Nat→Heap→Prop} (W:Walks prog w A Ia fp [Ia] n P St) {R:Result→Shared→Prop} (J:Nat→Shared→Prop)
  (hJ:∀ {i s},J i s→i≤n∧St i s.heap) (done:∀ {s h2 tk2},J n s→(∀ b o,b≠Ia→s.heap.get? b=some o→h2.get? b=some o)→R (.ok .next) { s with heap:=h2,toks:=tk2 })
  (item:∀ {i s v h2 tk2} {E:Value→Shared→Prop},i<n→J i s→P i v→St (i+1) h2→(∀ b o,b≠Ia→s.heap.get? b=some o→h2.get? b=some o)→wpAny (model prog w) A (assign target env v) (fun z9 s₂ =>
     wpAny (model prog w) A (forIn ifs true fun c r=>if r=true then do let ok ← isTrue c env (eval c env);pure (ForInStep.yield ok) else pure (ForInStep.yield r)) (fun ok s₃ =>
      if ok=true then wpAny (model prog w) A (eval elt env) (fun x s₄=>wpAny (model prog w) A (PySem.call (.builtin "list.append") [acc,x]) (fun z9 s₅=>J (i+1) s₅) E s₄) E s₃ else J (i+1) s₃) E s₂) E { s with heap:=h2,toks:=tk2 })
  (h0:J 0 s) (ht:∀ v,letOwnedTupleGo target (.ref Ia) v=pure ():=by intro z9;rfl):codeAny (model prog w) A (.compLoop (.ListComp elt [⟨target,iter,ifs,0⟩] scope pos) 0 (.ref Ia) acc env) R s:=by
 refine codeAny_compLoop_tests (fun k s=>∃ i,k=n+1-i∧J i s) (fun k s hI=>?_) (n+1) ⟨0,rfl,h0⟩ ht
 refine x11 hI fun i ek j=>?_
 have kk:∀ {b} {h2:Heap},b≠Ia→b∉[Ia]:=fun nb z=>nb (List.mem_singleton.1 z)
 by_cases hlt:i<n
 ·have nx:∀ {s},J (i+1) s→∃ m,m<k∧∃ i,m=n+1-i∧J i s:=fun j=>⟨n+1-(i+1),er ek (Nat.sub_lt_sub_left (Nat.lt_succ_of_lt hlt) (Nat.lt_succ_self i)),i+1,rfl,j⟩
  exact W.item i _ _ _ hlt (hJ j).2 fun v h2 tk2 hP hst k2=>wpAny_mono (item hlt j hP hst fun b o nb=>k2 b o (kk (h2:=h2) nb)) (fun z9 s₂ z=>wpAny_mono z (fun ok s₃ z=>by
   cases ok with
   | true=>exact wpAny_mono z (fun z9 z9 z=>wpAny_mono z (fun z9 z9 z=>nx z) fun z9 z9 z=>z) fun z9 z9 z=>z
   | false=>exact nx z) fun z9 z9 z=>z) fun z9 z9 z=>z
 ·obtain rfl:i=n:=Nat.le_antisymm (hJ j).1 (Nat.not_lt.1 hlt)
  exact W.done _ _ _ (hJ j).2 fun h2 tk2 k2=>done j fun b o nb=>k2 b o (kk (h2:=h2) nb)
structure CC (prog:Program) (w:World) (b0:Heap) (os0:OsState) (l:List Env) (A:Around) (σ₁:Sto) (s₁:Shared) (src:Src) (u:Value) (Ia D C:Addr) (fp:List Addr) (P:Nat→Value→Prop) (St:Nat→Heap→Prop):Prop where
 I:Inv prog w b0 os0 l σ₁ s₁
 at_:zD σ₁ s₁.heap src u
 W:Walks prog w A Ia fp [Ia] src.items.length P St
 fpa:∀ b∈fp,b=Ia∨src.guard=some b∨∃ vs n,s₁.heap.get? b=some (Je vs n)
 hit:∀ i v,i<src.items.length→P i v→∃ y,src.items[i]?=some y∧VR s₁.heap y v
 ns:∀ i h,St i h→∃ o',h.get? Ia=some o'∧QIt o'
 nI:s₁.heap.get? Ia=none
 nD:s₁.heap.get? D=none
 nC:s₁.heap.get? C=none
 DI:D≠Ia
 CI:C≠Ia
 DC:D≠C
structure CG (prog:Program) (w:World) (b0:Heap) (os0:OsState) (l:List Env) (σ₁:Sto) (s₁:Shared) (src:Src) (Ia D C:Addr) (St:Nat→Heap→Prop) (i:Nat) (s':Shared) (σ':Sto) (acc:List V) (vs:List Value) (m:PySem.Str→Option Value):Prop where
 G:wW prog w b0 os0 l σ₁ s₁ src Ia St i σ' s'
 d1:¬ σ'.has D
 d2:¬ σ'.has C
 hl:s'.heap.PlainList D vs.toArray
 hv:VRs s'.heap acc vs
 hn:s'.heap.Ns C m
section
variable {src:Src} {u:Value} {Ia D C:Addr} {fp:List Addr} {P:Nat→Value→Prop} {St:Nat→Heap→Prop} {i:Nat} {acc:List V} {vs:List Value} {m:PySem.Str→Option Value}
theorem Ze (c:CC prog w b0 os0 l A σ₁ s₁ src u Ia D C fp P St) {h h':Heap} (sm:∀ g,src.guard=some g→h.get? g=s₁.heap.get? g) {a:Addr} (na:s₁.heap.get? a=none) (k:∀ b o,b≠a→h.get? b=some o→h'.get? b=some o):∀ g,src.guard=some g→h'.get? g=s₁.heap.get? g :=
 fun g hg=>(qj c.I c.at_ hg).2.elim fun og hog=>by
  refine er hog ?_;exact k g og (fun z=>by rw[z,na] at hog;injection hog) (by refine er (sm g hg) ?_;exact hog)
variable {x:PySem.Str} {xs:List PySem.Str} {sc:Scope} {cl:List (PySem.Str×Addr)} {caps:List Nat} {cond:Option IE} {elt:IE} {y:Expr} {ifs:List Expr} {px:Pos}
theorem k3V (c:CC prog w b0 os0 l A σ₁ s₁ src u Ia D C fp P St) (a₁:At prog w b0 os0 n Γ env ρ σ₁ s₁ A l) (k1:sc.kind=.function) (k2:sc.names.lookup x=some .local) (k3:∀ p∈sc.names,p.2≠.cell) (hcaps:qe Γ caps=some xs) (hcell:∀ y∈xs,(jr Γ.names sc).lookup y=some .cell)
  (hcl:∀ y c,cl.lookup y=some c→env.cells.lookup y=some c) (hcl2:∀ y,(y,NameKind.free)∈sc.names→∃ c,cl.lookup y=some c) (hC:SC prog w b0 os0 call init n (jZ Γ x xs sc) cond ifs) (hE:SE prog w b0 os0 call init n (jZ Γ x xs sc) elt y)
  {K:Option V→Sto→Prop} {J:Shared→Prop} {E:Value→Shared→Prop} (hK:∀ {x σ'},K (some x) σ'→acc.length<kt∧jF src.guard σ₁ σ') (j0:∀ {s' σ' vs m},CG prog w b0 os0 l σ₁ s₁ src Ia D C St (i+1) s' σ' acc vs m→K none σ'→J s') (j1:∀ {s' σ' x vs m},CG prog w b0 os0 l σ₁ s₁ src Ia D C St (i+1) s' σ' (acc++[x]) vs m→K (some x) σ'→J s')
  (g:CG prog w b0 os0 l σ₁ s₁ src Ia D C St i s' σ' acc vs m) (sm:∀ g,src.guard=some g→s'.heap.get? g=s₁.heap.get? g) {xi:V} {v:Value} {h2:Heap} {tk2:Tok} (rv:VR s₁.heap xi v) (hst2:St (i+1) h2) (kI:∀ b o,b≠Ia→s'.heap.get? b=some o→h2.get? b=some o)
  (hq:evC call init cond (some xi::caps.map fun i=>(ρ[i]?).join) σ' fun b σ=>if b then ev call init elt (some xi::caps.map fun i=>(ρ[i]?).join) σ (fun v σ=>K (some v) σ) (fun z9 z9=>False) else K none σ) :
  wpAny (model prog w) A (assign (.Name x px) (compEnvC sc cl C env) v) (fun z9 s₂ =>
     wpAny (model prog w) A (forIn ifs true fun c r=>if r=true then do let ok ← isTrue c (compEnvC sc cl C env) (eval c (compEnvC sc cl C env));pure (ForInStep.yield ok) else pure (ForInStep.yield r)) (fun ok s₃ =>
      if ok=true then wpAny (model prog w) A (eval y (compEnvC sc cl C env)) (fun x s₄=>wpAny (model prog w) A (PySem.call (.builtin "list.append") [.ref D,x]) (fun z9 s₅=>J s₅) E s₄) E s₃ else J s₃) E s₂) E { s' with heap:=h2,toks:=tk2 }:=by
 have nsI:∀ o',s'.heap.get? Ia=some o'→¬ JS o':=fun o' e=>x11 (c.ns _ _ (g.G.st sm)) fun oo e1 e2=>Option.some.inj (e1.symm.trans e)▸e2.1
 have T3:=kQ.poke c.I g.G.T (tk:=tk2) c.nI g.G.nI (JF c.I c.nI) nsI kI
 have K3:=jl nsI kI
 have G3:wW prog w b0 os0 l σ₁ s₁ src Ia St (i+1) σ' { s' with heap:=h2,toks:=tk2 }:=⟨T3,g.G.nI,fun z9=>hst2,x11 (c.ns _ _ hst2) fun oo e z9=>⟨oo,e⟩⟩
 have sm3:=Ze c sm c.nI kI
 have hn2:h2.Ns C m:=g.hn.at' fun o' e=>kI _ o' c.CI e
 refine wpAny_assign_Name (wpAny_storeName_local (lookup_relabel_local k2) hn2 (fun h3 hn3 sb3=>?_) (by simp[compEnvC,relabel,k1]))
 have kC:∀ b o',b≠C→h2.get? b=some o'→h3.get? b=some o':=fun b o' nb e=>sb3.extBut b o' nb e
 have nsC:=JE hn2
 have K4:=jl nsC kC
 have G4:=wW.poke c.I c.at_ c.W c.fpa G3 sm3 (a:=C) (tk:=tk2+1) c.CI c.nC g.d2 (JF c.I c.nC) nsC kC
 have sm4:=Ze c sm3 c.nC kC
 have aC:=k66 (a₁.step G4.T) (x:=x) (xs:=xs) (sc:=sc) (cl:=cl) (C:=C) (v:=xi) (u:=v) k1 k2 k3 hcaps hcell hcl hcl2 hn3 (if_pos rfl) ((T3.vr c.I rv).keep K4) g.d2
 refine g.hl.elim fun nl hl'=>(k6m hn3).elim fun oc hoc=>UX hC aC hq fun b σ2 s4 S4 q4=>?_
 have hl5:=S4.free (kC _ _ c.DC (kI _ _ c.DI hl')) g.d1 (JF c.I c.nD)
 have hc5:=S4.free hoc g.d2 (JF c.I c.nC)
 have hv5:=S4.vrs G4.T.inv ((g.hv.keep K3).keep K4)
 have hn5:=hn3.at' (h':=s4.heap) fun o' e=>Option.some.inj (hoc.symm.trans e)▸hc5.1
 cases b with
 | false=>exact j0 ⟨wW.step c.I c.at_ c.W c.fpa (JF c.I c.nI) G4 sm4 S4,hl5.2,hc5.2,⟨nl,hl5.1⟩,hv5,hn5⟩ q4
 | true =>
  refine wpAny_mono (hE (aC.step S4) q4) (fun v5 s5 p5=>x22 p5 fun x5 σ5 S5 r5 q5=>?_) fun z9 z9 p=>(K1Y p).elim
  have hl6:=S5.free hl5.1 hl5.2 (JF c.I c.nD)
  have hc6:=S5.free hc5.1 hc5.2 (JF c.I c.nC)
  have hv6:=S5.vrs S4.inv hv5
  refine wpAny_list_append_plain (items:=vs.toArray) ⟨nl,hl6.1⟩ (fun h6 hl7 sb6=>?_) (by refine er List.size_toArray (er hv6.length (er KB ?_));exact Nat.le_of_lt (hK q5).1)
  have kD:∀ b o',b≠D→s5.heap.get? b=some o'→h6.get? b=some o':=fun b o' nb e=>sb6.extBut b o' nb e
  have nsD:∀ o',s5.heap.get? D=some o'→¬ JS o':=fun o' e=>Option.some.inj (hl6.1.symm.trans e)▸wV (T := "list") rfl
  have K6:=jl nsD kD
  have G6:=wW.step c.I c.at_ c.W c.fpa (JF c.I c.nI) G4 sm4 (S4.trans S5)
  have G7:=wW.poke c.I c.at_ c.W c.fpa G6 (G6.same c.I c.at_ (hK q5).2) (a:=D) (tk:=s5.toks) c.DI c.nD hl6.2 (JF c.I c.nD) nsD kD
  have hn6:=hn5.at' (h':=s5.heap) fun o' e=>Option.some.inj (hc5.1.symm.trans e)▸hc6.1
  exact hl7.elim fun nl' hl8=>j1 (vs:=vs++[v5]) ⟨G7,hl6.2,hc6.2,⟨nl',by refine er hl8 ?_;simp⟩,(hv6.keep K6).append (.cons (r5.keep K6) .nil),hn6.at' fun o' e=>kD _ o' c.DC.symm e⟩ q5
variable (call init) in
noncomputable abbrev k6k (ρ:Loc) (caps:List Nat) (cond:Option IE) (elt:IE) (x:V) (σ:Sto) (K:Option V→Sto→Prop):Prop:=evC call init cond (some x::caps.map fun i=>(ρ[i]?).join) σ fun b σ=>if b then ev call init elt (some x::caps.map fun i=>(ρ[i]?).join) σ (fun v σ=>K (some v) σ) (fun z9 z9=>False) else K none σ
theorem k4U (c:CC prog w b0 os0 l A σ₁ s₁ src u Ia D C fp P St) (a₁:At prog w b0 os0 n Γ env ρ σ₁ s₁ A l) (k1:sc.kind=.function) (k2:sc.names.lookup x=some .local) (k3:∀ p∈sc.names,p.2≠.cell) (hcaps:qe Γ caps=some xs) (hcell:∀ y∈xs,(jr Γ.names sc).lookup y=some .cell)
  (hcl:∀ y c,cl.lookup y=some c→env.cells.lookup y=some c) (hcl2:∀ y,(y,NameKind.free)∈sc.names→∃ c,cl.lookup y=some c) (hC:SC prog w b0 os0 call init n (jZ Γ x xs sc) cond ifs) (hE:SE prog w b0 os0 call init n (jZ Γ x xs sc) elt y)
  {Q:QV} {R:Result→Shared→Prop} {iter:Expr} {pos:Pos} {s₂:Shared} (fin:∀ {σ' s' m'},kQ prog w b0 os0 l σ₁ s₁ σ' s'→Q (.ref D) σ'→s'.heap.Ns C m'→¬ σ'.has C→R (.ok .next) s')
  (g:CG prog w b0 os0 l σ₁ s₁ src Ia D C St 0 s₂ σ₁ [] [] m) (q:Kv src.guard σ₁ (k6k call init ρ caps cond elt) src.items [] σ₁ Q) :
  codeAny (model prog w) A (.compLoop (.ListComp y [⟨.Name x px,iter,ifs,0⟩] sc pos) 0 (.ref Ia) (.ref D) (compEnvC sc cl C env)) R s₂:=by
 refine k4g c.W (fun i s'=>∀ G:Prop,(∀ σ' acc vs m,i≤src.items.length→CG prog w b0 os0 l σ₁ s₁ src Ia D C St i s' σ' acc vs m→Kv src.guard σ₁ (k6k call init ρ caps cond elt) (src.items.drop i) acc σ' Q→G)→G)
  (fun {i s'} j=>j _ fun σ' acc vs m hi g hq=>⟨hi,g.G.st (g.G.same c.I c.at_ (Qh hq))⟩) (fun {s' h2 tk2} j kI=>j _ fun σ' acc vs m hi g hq=>?_) (fun {i s' v h2 tk2 E} hlt j hP hst kI=>j _ fun σ' acc vs m hi g hq=>?_) fun G k=>k σ₁ [] [] m (Nat.zero_le _) g q
 ·rw[List.drop_length] at hq
  have sm:=g.G.same c.I c.at_ hq.1
  have nsI:∀ o',s'.heap.get? Ia=some o'→¬ JS o':=fun o' e=>x11 (c.ns _ _ (g.G.st sm)) fun oo e1 e2=>Option.some.inj (e1.symm.trans e)▸e2.1
  have T3:=kQ.poke c.I g.G.T (tk:=tk2) c.nI g.G.nI (JF c.I c.nI) nsI kI
  refine g.hl.elim fun nl hl'=>?_
  have T5:=kQ.adopt c.I T3 c.nD g.d1 (JF c.I c.nD) (c:=.list acc) ⟨vs,nl,kI _ _ c.DI hl',g.hv.keep (jl nsI kI)⟩
  refine fin T5 (hq.2 _ g.d1) (g.hn.at' fun o' e=>kI _ o' c.CI e) fun z=>g.d2 ?_
  rw[Sto.has,Sto.get_upd_ne _ _ c.DC] at z;exact z
 ·rw[UJ (List.getElem?_eq_getElem hlt)] at hq
  refine x11 (c.hit i v hlt hP) fun y0 hy0 rv=>?_
  rw[(List.getElem?_eq_getElem hlt).symm.trans hy0|>Option.some.inj] at hq
  exact k3V c a₁ k1 k2 k3 hcaps hcell hcl hcl2 hC hE (K:=fun o σ'=>match o with
   | some v=>acc.length<kt∧Kv src.guard σ₁ (k6k call init ρ caps cond elt) (src.items.drop (i+1)) (acc++[v]) σ' Q
   | none=>Kv src.guard σ₁ (k6k call init ρ caps cond elt) (src.items.drop (i+1)) acc σ' Q)
   (fun q=>⟨q.1,Qh q.2⟩) (fun g q G k=>k _ _ _ _ hlt g q) (fun g q G k=>k _ _ _ _ hlt g q.2) g (g.G.same c.I c.at_ hq.1) rv hst kI hq.2
end
theorem k1F (B:Ws Γ.K b0) (a:At prog w b0 os0 n Γ env ρ σ s A l) {caps:List Nat} {it:IT} {cond:Option IE} {elt:IE} {x:PySem.Str} {xs:List PySem.Str} {px pos:Pos} {iter y:Expr} {ifs:List Expr} {sc:Scope} {Q:QV} {X:QX}
  (c1:wt Γ.names x sc=true) (hcaps:qe Γ caps=some xs) (hcell:∀ y∈xs,(jr Γ.names sc).lookup y=some .cell) (hs:∀ v,foldedSetIterable iter env v=pure v)
  (hI:SI prog w b0 os0 call init n Γ it iter) (hC:SC prog w b0 os0 call init n (jZ Γ x xs sc) cond ifs) (hE:SE prog w b0 os0 call init n (jZ Γ x xs sc) elt y)
  {use:Option (Value→Sem Unit)} {R:Value→Shared→Prop} {ip:Pos}
  (fin:∀ {C D:Addr} {σ':Sto} {s':Shared} {m':PySem.Str→Option Value},kQ prog w b0 os0 l σ s σ' s'→Q (.ref D) σ'→s'.heap.Ns C m'→s.heap.get? C=none→¬ σ'.has C→compPost (model prog w) A (PX prog w b0 os0 l σ s X) use R (.ref D) C (.ok .next) s')
  (q:ev call init (.comp caps it cond elt) ρ σ Q X):wpAny (model prog w) A (comprehension (.ListComp y [⟨.Name x px,iter,ifs,0⟩] sc pos) sc env ip (newList []) false (eval iter env) use) R (PX prog w b0 os0 l σ s X) s:=by
 refine k0p c1 fun k1 k2 k3 k3l k3f=>x12 (ZJ (env:=env) (sc:=sc) fun p hp e=>a.env_.all p.1 (a.kind.trans (k3f p hp e))) fun cl hclos hcl hcl2=>?_
 refine wpAny_comprehension_free (use:=use) rfl hs hclos k1 k3l (wpAny_mono (hI a q) (fun u s₁ p=>x22 p fun src σ₁ S₁ hsrc q=>?_) fun z9 z9 p=>p)
 have I1:=S₁.inv
 refine Zm a.room.1 I1 B.H hsrc fun o fp P St hoI W st0 hfp hit hns=>?_
 refine wpAny_newObj_type (wpAny_newFunctionEnv k3 (fun z9 h=>nomatch h) (fun h₁ hns₁ hsb₁=>?_) k1)
 dsimp only at hns₁ hsb₁ ⊢
 have hD:(s₁.heap.push o).objs.size=s₁.heap.objs.size+1:=Heap.size_push ..
 have hCs:((s₁.heap.push o).push { cls:=.type "list",dict:=none,data:=.seq ([]:List Value).toArray }).objs.size=s₁.heap.objs.size+2:=by rw[Heap.size_push,hD]
 have getD2:((s₁.heap.push o).push { cls:=.type "list",dict:=none,data:=.seq ([]:List Value).toArray }).get? (s₁.heap.objs.size+1)=some { cls:=.type "list",dict:=none,data:=.seq ([]:List Value).toArray }:=by
  refine er (Eq.symm hD) ?_;exact Heap.get?_push_size _ rfl
 rw[hCs] at hns₁ hsb₁ ⊢
 refine er hD ?_
 have nC:s₁.heap.get? (s₁.heap.objs.size+2)=none:=Heap.get?_none_of_le (Nat.le_add_right _ _)
 have keepP:∀ b o',(s₁.heap.push o).get? b=some o'→h₁.get? b=some o':=fun b o' e =>
  hsb₁.extBut b o' (fun z=>by have:=Heap.lt_size e;rw[hD,z] at this;exact absurd this (Nat.not_lt.mpr (Nat.le_succ _))) (Heap.get?_push_of_some _ (Heap.get?_push_of_some _ e))
 have keep1:∀ b o',s₁.heap.get? b=some o'→h₁.get? b=some o':=fun b o' e=>keepP b o' (Heap.get?_push_of_some _ e)
 generalize hIa:s₁.heap.objs.size=Ia at *
 have nIa:s₁.heap.get? Ia=none:=hIa▸Kx _
 have T2:kQ prog w b0 os0 l σ₁ s₁ σ₁ { s₁ with heap:=h₁,toks:=s₁.toks+([]:List (PySem.Str×Value)).length }:=kQ.grow I1 keep1
 have c:CC prog w b0 os0 l A σ₁ s₁ src u Ia (Ia+1) (Ia+2) fp P St:=⟨I1,hsrc,W,hfp,hit,hns,nIa,Heap.get?_none_of_le (hIa▸Nat.le_succ _),nC,Nat.succ_ne_self _,Nat.ne_of_gt (Nat.lt_add_of_pos_right (by decide)),Nat.ne_of_lt (Nat.lt_succ_self _)⟩
 have g:CG prog w b0 os0 l σ₁ s₁ src Ia (Ia+1) (Ia+2) St 0 { s₁ with heap:=h₁,toks:=s₁.toks+([]:List (PySem.Str×Value)).length } σ₁ [] [] _ :=
  ⟨⟨T2,I1.fresh nIa,fun z9=>W.frame _ _ _ st0 fun b z9 o' e=>keepP b o' e,o,keepP _ _ hoI⟩,I1.fresh c.nD,I1.fresh c.nC,⟨0,hsb₁.extBut _ _ c.DC (Heap.get?_push_of_some _ getD2)⟩,.nil,hns₁⟩
 have loop:=k4U c (a.step S₁) k1 k2 k3 hcaps hcell hcl hcl2 hC hE (px:=px) (iter:=iter) (pos:=pos) (Q:=Q) (R:=compPost (model prog w) A (PX prog w b0 os0 l σ s X) use R (.ref (Ia+1)) (Ia+2)) (fun T q hn hd=>fin (S₁.trans T) q hn (S₁.back nC) hd) g q
 exact codeAny_compStart_list loop (W.self 0 _ _ _ (g.G.st fun g hg=>(qj I1 hsrc hg).2.elim fun og hog=>by refine er hog ?_;exact keep1 _ _ hog) loop)
theorem k25 (B:Ws Γ.K b0) (a:At prog w b0 os0 n Γ env ρ σ s A l) {caps:List Nat} {it:IT} {cond:Option IE} {elt:IE} {x:PySem.Str} {xs:List PySem.Str} {px pos:Pos} {iter y:Expr} {ifs:List Expr} {sc:Scope} {Q:QV} {X:QX}
  (c1:wt Γ.names x sc=true) (hcaps:qe Γ caps=some xs) (hcell:∀ y∈xs,(jr Γ.names sc).lookup y=some .cell) (hs:∀ v,foldedSetIterable iter env v=pure v)
  (hI:SI prog w b0 os0 call init n Γ it iter) (hC:SC prog w b0 os0 call init n (jZ Γ x xs sc) cond ifs) (hE:SE prog w b0 os0 call init n (jZ Γ x xs sc) elt y)
  (q:ev call init (.comp caps it cond elt) ρ σ Q X):wpAny (model prog w) A (eval (.ListComp y [⟨.Name x px,iter,ifs,0⟩] sc pos) env) (PV prog w b0 os0 l σ s Q) (PX prog w b0 os0 l σ s X) s:=by
 rw[eval_ListComp]
 refine k1F B a c1 hcaps hcell hs hI hC hE (fun {C D σ' s' m'} T q hn hC0 hC1=>⟨m',hn,fun h3 hs3=>?_⟩) q
 have fC:C∉frs l:=fun m=>by refine x31 (a.inv.frD C m) fun o' z9 z9 e z9=>?_;rw[hC0] at e;injection e
 exact PV.now (kQ.poke a.inv T (tk:=s'.toks) hC0 hC1 fC (JE hn) fun b o' nb e=>hs3.extBut b o' nb e) (by first | exact rfl | exact ⟨_,rfl⟩) q
end
section
variable {prog:Program} {w:World} {b0:Heap} {os0:OsState} {call:jH} {init:Addr→Option Addr} {n:Nat} {Γ:Ctx} {env:Env} {ρ:Loc} {σ σ' σ₀ σ₁:Sto} {s s' s₀ s₁:Shared} {A:Around} {l:List Env} {h h':Heap}
noncomputable def ui (env:Env) (pos:Pos):List (Option Expr)→List Expr→List (Sem Value×Sem Value)
 | some k::ks,v::vs=>(eval k env,do let x ← eval v env;standAt pos;pure x)::ui env pos ks vs
 | _,_=>[]
theorem UN {t:PySem.Str} {k:Nat} {p:Pos} {R:Value→Shared→Prop} {E:Value→Shared→Prop} (h:R (.str t s.toks) { s with toks:=s.toks+1 }):wpAny (model prog w) A (eval (.Constant (.str t) k p) env) R E s:=fun z9 z9 z9=>h
variable (prog w b0 os0 call init n) in
noncomputable def SK (Γ:Ctx) (kvs:List (List Nat×IE)) (ks:List (Option Expr)) (vs:List Expr):Prop :=
 kvs.length=ks.length∧kvs.length=vs.length∧(∀ env pos,(evalEachOpt ks env).zip ((evalEach vs env).map fun v=>do let x ← v;standAt pos;pure x)=(ui env pos ks vs).map fun p=>(some p.1,p.2))∧(∀ env pos,(ui env pos ks vs).length=kvs.length) ∧
 ∀ {env ρ σ s A l Q X pos},At prog w b0 os0 n Γ env ρ σ s A l→K1v call init kvs ρ σ Q X →
  wpAny (model prog w) A (evalPairs (ui env pos ks vs)) (fun us s'=>∃ xs σ' ps,kQ prog w b0 os0 l σ s σ' s'∧Carries (kB prog w) us ps∧KvR s'.heap xs ps∧ps.map (·.1)=kvs.map (fun p=>Key.str p.1)∧Q xs σ') (PX prog w b0 os0 l σ s X) s
theorem SK.nil:SK prog w b0 os0 call init n Γ [] [] [] :=
 ⟨rfl,rfl,fun z9 z9=>rfl,fun z9 z9=>rfl,fun a q=>evalPairs_nil ⟨[],_,[],.refl a.inv,trivial,rfl,rfl,q⟩⟩
theorem SK.cons {kk:List Nat} {ie:IE} {kvs:List (List Nat×IE)} {t:PySem.Str} {k:Nat} {p:Pos} {v:Expr} {ks:List (Option Expr)} {vs:List Expr} (e:ke kk=t) (hE:SE prog w b0 os0 call init n Γ ie v) (hK:SK prog w b0 os0 call init n Γ kvs ks vs) :
  SK prog w b0 os0 call init n Γ ((kk,ie)::kvs) (some (.Constant (.str t) k p)::ks) (v::vs):=by
 refine x04 hK ?_;clear hK;intro h1 h2 h3 h4 h5
 refine ⟨by simp[h1],by simp[h2],fun env pos=>?_,fun env pos=>congrArg Nat.succ (h4 env pos),fun {env ρ σ s A l Q X pos} a q=>?_⟩
 ·exact congrArg (List.cons _) (h3 env pos)
 ·refine evalPairs_cons (UN ?_)
  have S0:kQ prog w b0 os0 l σ s σ { s with toks:=s.toks+1 }:=kQ.same a.inv
  have a0:=a.step S0
  refine wpAny_bind (wpAny_mono (hE a0 q) (fun u s₁ pv=>?_) fun z9 z9 px=>px.back S0)
  refine x22 pv ?_;clear pv;intro x σ₁ S₁ r₁ q₁
  refine wpAny_bind (wpAny_standAt (wpAny_pure ?_))
  have a1:=a0.step S₁
  refine wpAny_mono (h5 a1 q₁) (fun us s₂ pv=>?_) fun z9 z9 px=>(px.back S₁).back S0
  refine x34 pv ?_;clear pv;intro xs σ₂ ps S₂ c kv km q₂
  refine ⟨(.str kk,x)::xs,σ₂,(.str kk,u)::ps,S0.trans (S₁.trans S₂),⟨?_,rfl,c⟩,⟨.str kk,u,ps,rfl,rfl,S₂.vr a1.inv r₁,kv⟩,by simp[km],q₂⟩
  refine er (Qr _ _) ?_;simp[Value.isStr,e]
theorem k16 (h:Heap):(h.push { cls:=.type "dict",data:=.dict #[] }).DictOf (kB prog w) h.objs.size [] :=
 ⟨_,#[],0,Heap.get?_push_size _ rfl,⟨rfl,rfl,rfl⟩,rfl,fun e he=>by simp at he,.nil,by simp⟩
theorem k24 (a:At prog w b0 os0 n Γ env ρ σ s A l) {kvs:List (List Nat×IE)} {ks:List (Option Expr)} {vs:List Expr} {pos:Pos} {Q:QV} {X:QX} (hK:SK prog w b0 os0 call init n Γ kvs ks vs) (hl:kvs.length≤15) (hn:(kvs.map (·.1)).Nodup)
  (q:ev call init (.dict kvs) ρ σ Q X):wpAny (model prog w) A (eval (.Dict ks vs pos) env) (PV prog w b0 os0 l σ s Q) (PX prog w b0 os0 l σ s X) s:=by
 refine x04 hK ?_;clear hK;intro h1 h2 h3 h4 h5
 cases kvs with
 | nil =>
  have e1:ks=[]:=List.eq_nil_of_length_eq_zero (by simpa using h1.symm)
  have e2:vs=[]:=List.eq_nil_of_length_eq_zero (by simpa using h2.symm)
  subst e1 e2
  refine er (eval_Dict_empty _) ?_
  refine wpAny_bind (wpAny_standAt ?_)
  unfold newDict
  refine wpAny_newObj_type ?_
  exact PV.now (kQ.new a.inv (s':={ s with heap:=s.heap.push { cls:=.type "dict",data:=.dict #[] } }) (Kx _) (kW _ _) (c:=.dict []) ⟨[],k16 _,rfl⟩) (by first | exact rfl | exact ⟨_,rfl⟩) (q _ (a.inv.fresh (Kx _)))
 | cons kv kvs =>
  have S0:kQ prog w b0 os0 l σ s σ { s with heap:=s.heap.push { cls:=.type "dict",data:=.dict #[] } }:=kQ.grow a.inv (kW _ _)
  have a0:=a.step S0
  have nD:=Kx s.heap
  have fD:s.heap.objs.size∉frs l:=fun m=>by refine x31 (a.inv.frD _ m) fun o' z9 z9 e z9=>?_;rw[nD] at e;injection e
  have d0:¬ σ.has s.heap.objs.size:=a.inv.fresh nD
  have oD:(s.heap.push { cls:=.type "dict",data:=.dict #[] }).get? s.heap.objs.size=some { cls:=.type "dict",data:=.dict #[] }:=Heap.get?_push_size _ rfl
  refine wpAny_Dict_pairs (knd:=kB prog w) (h3 env pos) (fun z=>by have:=congrArg List.length z;rw[h4] at this;simp at this) (by refine er (h4 _ _) ?_;exact hl) (wpAny_mono (h5 a0 q) (fun us s₁ pv=>?_) fun z9 z9 px=>px.back S0)
  refine x34 pv ?_;clear pv;intro xs σ₁ ps S₁ c kr km q₁
  obtain ⟨k1,k2⟩:=S₁.free oD d0 fD
  refine ⟨ps,c,⟨_,#[],0,k1,⟨rfl,rfl,rfl⟩,rfl,fun e he=>by simp at he,.nil,by simp⟩,fun h' hd sb=>?_⟩
  have hnd:((([]:List (Key×Value))++ps).map (·.1)).Nodup:=by
   rw[List.nil_append,km]
   have e1:(kv::kvs).map (fun p=>Key.str p.1)=((kv::kvs).map fun p=>p.1).map Key.str:=by rw[List.map_map];rfl
   rw[e1]
   exact List.Pairwise.map Key.str (fun x y ne z=>ne (by injection z)) hn
  rw[merged_append_of_fresh _ _ hnd,List.nil_append] at hd
  have kD:∀ b o',b≠s.heap.objs.size→s₁.heap.get? b=some o'→h'.get? b=some o':=fun b o' nb e=>sb.extBut b o' nb e
  have nsD:∀ o',s₁.heap.get? s.heap.objs.size=some o'→¬ JS o':=fun o' e=>by rw[k1] at e;injection e with e;subst e;exact wV (T := "dict") rfl
  have T:=kQ.poke a.inv (S0.trans S₁) (tk:=s₁.toks+us.length) nD k2 fD nsD kD
  have T2:=kQ.adopt a.inv T nD k2 fD (c:=.dict xs) ⟨ps,hd,kr.keep (jl nsD kD)⟩
  exact PV.now T2 (by first | exact rfl | exact ⟨_,rfl⟩) (q₁ _ k2)
end
section
variable {prog:Program} {w:World} {b0:Heap} {os0:OsState} {call:jH} {init:Addr→Option Addr} {n:Nat} {Γ:Ctx} {env:Env} {ρ:Loc} {σ σ' σ₀ σ₁:Sto} {s s' s₀ s₁:Shared} {A:Around} {l:List Env} {h h':Heap} {M:Model} {E:Value→Shared→Prop}
noncomputable def KE (e:Expr):Bool:=e.ctorIdx != 22
theorem yU {e:Expr} {r:List Expr} (h:KE e=true):starEach (e::r) env=(false,eval e env)::starEach r env:=by
 cases e <;> first | rfl | exact ft h
theorem k1N {k:Nat} {ie:IE} {e:Expr} (h:ckE k Γ ie e=true):KE e=true:=by
 cases e <;> first | rfl | skip
 cases k with
 | zero=>injection h
 | succ k=>cases ie <;> first | (injection h;done) | (refine x41 (jG h) fun z9 z9 z9 z9 z z9=>?_;injection z;done) | (refine x51 (wS h) fun z9 z9 z9 z9 z9 z z9=>?_;injection z;done) | (refine x71 (Wi h) fun z9 z9 z9 z9 z9 z9 z9 z z9=>?_;injection z;done)
theorem jT {as:List IE}:∀ {k:Nat} {es:List Expr},k2H k Γ as es=true→es.all KE=true:=by
 induction as with
 | nil =>
  intro k es h
  cases k with
  | zero=>injection h
  | succ k=>cases (KN h);rfl
 | cons a as ih =>
  intro k es h
  cases k with
  | zero=>injection h
  | succ k =>
   cases es with
   | nil=>injection h
   | cons e es =>
    obtain ⟨h1,h2⟩:=k81 h
    exact Bool.and_eq_true_iff.mpr ⟨k1N h1,ih h2⟩
theorem Wb:∀ {es:List Expr} {pos:Pos},es.all KE=true→(backTo pos (starEach es env)).any (·.1)=false
 | [],_,_=>rfl
 | e::r,pos,h=>by
  simp only[List.all_cons,Bool.and_eq_true] at h
  refine er (yU h.1) ?_
  exact Wb (es:=r) (pos:=pos) h.2
theorem k6G {es:List Expr} {pos:Pos} (h:es.all KE=true):(backTo pos (starEach es env)).all (fun x => !x.1)=true:=by
 have:=Wb (env:=env) (pos:=pos) h
 refine er List.all_eq_not_any_not ?_
 simp only[Bool.not_not]
 refine er this ?_;rfl
theorem Yw {f:Value} {es:List Expr} {pos:Pos} {Q:Args→Shared→Prop} (hns:es.all KE=true) (h:wpAny M A (spliced (backTo pos (starEach es env))) (fun vs s'=>Q ⟨vs,[]⟩ s') E s) :
  wpAny M A (evalArgs f true (backTo pos (starEach es env)) []) Q E s:=by
 cases es with
 | nil =>
  unfold evalArgs
  show wpAny M A (spliced [] >>= _) Q E s
  refine wpAny_bind (wpAny_mono h (fun vs s' h'=>?_) fun z9 z9 x=>x)
  refine wpAny_holding ?_
  exact wpAny_bind (wpAny_pure (wpAny_bind (wpAny_pure (wpAny_pure h'))))
 | cons e r =>
  simp only[List.all_cons,Bool.and_eq_true] at hns
  rw[yU hns.1] at h ⊢
  exact evalArgs_plain h
theorem k62 {K:Frag} {f:Value} {first:List Value} {es:List Expr} {pos:Pos} {Q:Value→Shared→Prop} (hns:es.all KE=true) (hk:keepIn K f=true)
  (h:wpAny M A (spliced (backTo pos (starEach es env))) (fun vs s₁=>K.In s₁.heap∧wpAny M A (PySem.call f (first++vs)) Q E s₁) E s):wpAny M A (callWith pos f first (backTo pos (starEach es env)) []) Q E s :=
 callWith_of (by refine er (Wb hns) ?_;rfl) (keeps_K hk) (Yw hns h)
theorem Uh {o:Expr} {name:PySem.Str} {apos pos:Pos} {args:List Expr} {Q:Value→Shared→Prop} (hb:yg o=true) (hns:args.all KE=true) (hl:args.length<20) (hline:(apos.endLine==pos.line)=true)
  (h:wpAny M A (eval o env) (fun ov s₁=>∀ pl,wpAny M A (getMethod ov name pl) (fun fx s₂=>wpAny M A (callWith pos fx.1 fx.2 (backTo pos (starEach args env)) []) Q E s₂) E s₁) E s) :
  wpAny M A (eval (.Call (.Attribute o name apos) args [] pos) env) Q E s:=by
 rw[arm_eval_Call,k0G hb]
 refine wpAny_bind (wpAny_mono h (fun ov s₁ h₁=>?_) fun z9 z9 e=>e)
 refine wpAny_bind (wpAny_standAt ?_)
 have hform:methodCallForm (args.length+([]:List Keyword).length) (backTo pos (starEach args env)) (backToKw pos (keywordEach [] env))=true:=by
  unfold methodCallForm
  rw[k6G hns]
  show (true&&(true&&decide (args.length+0+0<30)))=true
  refine er (decide_eq_true (by lia)) ?_;rfl
 unfold methodCall
 refine er hform ?_
 have hpos:methodCallPos true o env apos pos=pure pos:=by unfold methodCallPos;simp[hline]
 refine er hpos ?_
 unfold calleeOf
 refine wpAny_bind (wpAny_holding (wpAny_mono (h₁ _) (fun fx s₂ h₂=>?_) fun z9 z9 e=>e))
 exact wpAny_bind (wpAny_pure h₂)
theorem k8M {f:Value} {first:List Value} {es:List Expr} {pos:Pos} {Q:Value→Shared→Prop} (hm:∀ a,f≠.ref a) (hns:es.all KE=true) (h:wpAny M A (spliced (backTo pos (starEach es env))) (fun vs s₁=>wpAny M A (PySem.call f (first++vs)) Q E s₁) E s) :
  wpAny M A (callWith pos f first (backTo pos (starEach es env)) []) Q E s :=
 callWith_of (P:=fun z9=>True) (by refine er (Wb hns) ?_;rfl) (fun h z9=>⟨.machine,.inr (.inl rfl),Looks.of_pure (by cases f <;> first | rfl | exact (hm _ rfl).elim)⟩) (Yw hns (wpAny_mono h (fun vs s' q=>⟨trivial,q⟩) fun z9 z9 e=>e))
theorem BI.notRef (f:BI) (a:Addr):f.v≠.ref a:=by cases f <;> exact fun e=>nomatch e
theorem k8R {v:Value} {es:List Expr} {pos:Pos} {Q:Value→Shared→Prop} (hns:es.all KE=true) (h:wpAny M A (spliced (backTo pos (starEach es env))) (fun vs s₁=>k0v s₁.heap v∧wpAny M A (PySem.call v vs) Q E s₁) E s) :
  wpAny M A (callWith pos v [] (backTo pos (starEach es env)) []) Q E s:=by
 refine callWith_of (P:=fun h=>k0v h v) (by refine er (Wb hns) ?_;rfl) (fun h X=>?_) (Yw hns h)
 refine x74 X ?_;clear X;intro a o fd c oc vs t zr7 e2 e3 e4 z9;subst zr7
 refine ⟨.frame,.inl rfl,?_⟩
 unfold keeperOf
 refine (Looks.ld (part:=none) e2).andThen ?_
 refine er e4 ?_;exact .now
end
section
variable {prog:Program} {w:World} {b0:Heap} {os0:OsState} {call:jH} {init:Addr→Option Addr} {n:Nat} {Γ:Ctx} {env:Env} {ρ:Loc} {σ σ' σ₀ σ₁:Sto} {s s' s₀ s₁:Shared} {A:Around} {l:List Env} {h h':Heap}
variable (prog w b0 os0 call init n) in
noncomputable def SO (Γ:Ctx) (o:Option IE) (e:Option Expr):Prop:=∀ {env ρ σ s A l Q X},At prog w b0 os0 n Γ env ρ σ s A l→evO call init o ρ σ Q X →
 wpAny (model prog w) A (evalPart e env) (fun v s'=>∃ p σ',kQ prog w b0 os0 l σ s σ' s'∧IsPart v p∧Q p σ') (PX prog w b0 os0 l σ s X) s
theorem wF {k:Nat} {it:IT} {e:Expr} (h:ckI k Γ it e=true):∀ v env,foldedSetIterable e env v=pure v:=by
 intro v env
 cases e <;> first | rfl | skip
 cases k with
 | zero=>injection h
 | succ k =>
  cases it with
  | range as=>refine x41 (jG h) fun z9 z9 z9 z9 z z9=>?_;injection z
  | e a =>
   cases k with
   | zero=>injection h
   | succ k=>cases a <;> first | (injection h;done) | (refine x41 (jG h) fun z9 z9 z9 z9 z z9=>?_;injection z;done) | (refine x51 (wS h) fun z9 z9 z9 z9 z9 z z9=>?_;injection z;done) | (refine x71 (Wi h) fun z9 z9 z9 z9 z9 z9 z9 z z9=>?_;injection z;done)
theorem k6x {ie:IE} {e:Expr} (h:SE prog w b0 os0 call init n Γ ie e) (hp:∀ env whole,isTrue e env whole=(do let v ← whole;standAt e.pos;holding [v] (truthy v)))
  (hev:∀ ρ σ Q X,evB call init ie ρ σ Q X=ev call init ie ρ σ (fun x σ=>ZT x σ fun b=>Q b σ) X):SB prog w b0 os0 call init n Γ ie e:=by
 intro env ρ σ s A l Q X a q
 rw[hev] at q
 refine isTrue_plain ?_ (hp _ _)
 refine Kz (h a q) fun x σ₁ v s₁ S r q₁=>?_
 refine wpAny_mono (qK S.inv r q₁) (fun b s₂ p=>?_) fun z9 z9 e=>e
 exact ⟨σ₁,S.trans p.1,p.2⟩
end
section
variable {prog:Program} {w:World} {b0:Heap} {os0:OsState} {call:jH} {init:Addr→Option Addr} {n:Nat} {Γ:Ctx}
theorem k1A {σ σ':Sto} {s s':Shared} {A:Around} {l:List Env} {Q:Bool→Sto→Prop} {X:QX} {t:Sem Bool} (S:kQ prog w b0 os0 l σ s σ' s') (p:wpAny (model prog w) A t (PTB prog w b0 os0 l σ' s' Q) (PX prog w b0 os0 l σ' s' X) s') :
  wpAny (model prog w) A t (PTB prog w b0 os0 l σ s Q) (PX prog w b0 os0 l σ s X) s':=wpAny_mono p (fun z9 z9 q=>q.back S) fun z9 z9 q=>q.back S
theorem K0H {op:BOp} {l r:IE} {a b:Expr} {o:Operator} {p:Pos} (e:o=op.op) (h1:SE prog w b0 os0 call init n Γ l a) (h2:SE prog w b0 os0 call init n Γ r b):SE prog w b0 os0 call init n Γ (.bin op l r) (.BinOp a o b p):=by
 intro env ρ σ s A fr Q X t q
 subst e
 refine wpAny_BinOp (Kz (h1 t q) fun x σ₁ u s₁ S₁ r₁ q₁=>?_)
 refine jb S₁ (Kz (h2 (t.step S₁) q₁) fun y σ₂ v s₂ S₂ r₂ q₂=>?_) fun z9 z9 z=>z
 exact wpAny_mono (k00 S₂.inv (S₂.vr S₁.inv r₁) r₂ q₂) (fun z9 z9 z=>(z.back S₂).back S₁) fun z9 z9 z=>z
theorem k9S {ie:IE} {a:Expr} {p:Pos} (h:SE prog w b0 os0 call init n Γ ie a):SE prog w b0 os0 call init n Γ (.not ie) (.UnaryOp .Not a p):=by
 intro env ρ σ s A fr Q X t q
 refine UnaryOp_ (Kz (h t q) fun x σ₁ u s₁ S₁ r₁ q₁=>?_)
 refine not_of (wpAny_mono (qK S₁.inv r₁ q₁) (fun b s₂ z=>?_) fun z9 z9 z=>z)
 exact PV.now (S₁.trans z.1) (by first | exact rfl | exact ⟨_,rfl⟩) z.2
theorem k9V {ie:IE} {a:Expr} {p:Pos} (h:SB prog w b0 os0 call init n Γ ie a):SB prog w b0 os0 call init n Γ (.not ie) (.UnaryOp .Not a p):=by
 intro env ρ σ s A fr Q X t q
 exact isTrue_not (k1y (h t q) fun b σ₁ s₁ S₁ q₁=>⟨σ₁,S₁,q₁⟩)
theorem K0l {ie:IE} {a:Expr} {p:Pos} (h:SE prog w b0 os0 call init n Γ ie a):SE prog w b0 os0 call init n Γ (.neg ie) (.UnaryOp .USub a p):=by
 intro env ρ σ s A fr Q X t q
 refine UnaryOp_ (Kz (h t q) fun x σ₁ u s₁ S₁ r₁ q₁=>?_)
 cases x with
 | int i =>
  obtain ⟨tk,rfl⟩:=r₁
  exact PyProof.Rows.neg_int ((PV.same S₁.inv vrI q₁).back S₁)
 | _=>exact q₁.elim
theorem K0W {l r:IE} {x y:Expr} {rest:List Expr} {p:Pos} {e2:Expr} (h1:SE prog w b0 os0 call init n Γ l x) (h2:SE prog w b0 os0 call init n Γ r e2) (he:e2=(match rest with | []=>y | _=>.BoolOp .And (y::rest) p)):SE prog w b0 os0 call init n Γ (.and l r) (.BoolOp .And (x::y::rest) p):=by
 intro env ρ σ s A fr Q X t q
 refine BoolOp_and (Kz (h1 t q) fun v σ₁ u s₁ S₁ r₁ q₁=>?_)
 refine wpAny_mono (qK S₁.inv r₁ q₁) (fun b s₂ z=>?_) fun z9 z9 z=>z
 obtain ⟨S₂,q₂⟩:=z
 have S:=S₁.trans S₂
 cases b with
 | false=>exact PV.now S (S₂.vr S₁.inv r₁) q₂
 | true =>
  simp only[if_true] at q₂ ⊢
  have:=h2 (t.step S) q₂
  rw[he] at this
  refine ww S ?_
  cases rest with
  | nil=>exact BoolOp_one this
  | cons _ _=>exact this
theorem K1x {l r:IE} {x y:Expr} {rest:List Expr} {p:Pos} {e2:Expr} (h1:SE prog w b0 os0 call init n Γ l x) (h2:SE prog w b0 os0 call init n Γ r e2) (he:e2=(match rest with | []=>y | _=>.BoolOp .Or (y::rest) p)):SE prog w b0 os0 call init n Γ (.or l r) (.BoolOp .Or (x::y::rest) p):=by
 intro env ρ σ s A fr Q X t q
 refine BoolOp_or (Kz (h1 t q) fun v σ₁ u s₁ S₁ r₁ q₁=>?_)
 refine wpAny_mono (qK S₁.inv r₁ q₁) (fun b s₂ z=>?_) fun z9 z9 z=>z
 obtain ⟨S₂,q₂⟩:=z
 have S:=S₁.trans S₂
 cases b with
 | true=>exact PV.now S (S₂.vr S₁.inv r₁) q₂
 | false =>
  simp only[Bool.false_eq_true,if_false] at q₂ ⊢
  have:=h2 (t.step S) q₂
  rw[he] at this
  refine ww S ?_
  cases rest with
  | nil=>exact BoolOp_one this
  | cons _ _=>exact this
theorem k9X {l r:IE} {x y:Expr} {rest:List Expr} {p:Pos} {e2:Expr} (h1:SB prog w b0 os0 call init n Γ l x) (h2:SB prog w b0 os0 call init n Γ r e2) (he:e2=(match rest with | []=>y | _=>.BoolOp .And (y::rest) p)):SB prog w b0 os0 call init n Γ (.and l r) (.BoolOp .And (x::y::rest) p):=by
 intro env ρ σ s A fr Q X t q
 refine isTrue_and (k1y (h1 t q) fun b σ₁ s₁ S₁ q₁=>?_)
 cases b with
 | false=>exact ⟨σ₁,S₁,q₁⟩
 | true =>
  simp only[if_true] at q₁ ⊢
  have:=h2 (t.step S₁) q₁
  rw[he] at this
  refine k1A S₁ ?_
  cases rest with
  | nil =>
   refine isTrue_and (wpAny_mono this (fun b s₂ z=>?_) fun z9 z9 z=>z)
   cases b with
   | false=>exact z
   | true=>exact isTrue_and_nil z
  | cons _ _=>exact this
theorem K14 {l r:IE} {x y:Expr} {rest:List Expr} {p:Pos} {e2:Expr} (h1:SB prog w b0 os0 call init n Γ l x) (h2:SB prog w b0 os0 call init n Γ r e2) (he:e2=(match rest with | []=>y | _=>.BoolOp .Or (y::rest) p)):SB prog w b0 os0 call init n Γ (.or l r) (.BoolOp .Or (x::y::rest) p):=by
 intro env ρ σ s A fr Q X t q
 refine isTrue_or (k1y (h1 t q) fun b σ₁ s₁ S₁ q₁=>?_)
 cases b with
 | true=>exact ⟨σ₁,S₁,q₁⟩
 | false =>
  simp only[Bool.false_eq_true,if_false] at q₁ ⊢
  have:=h2 (t.step S₁) q₁
  rw[he] at this
  refine k1A S₁ ?_
  cases rest with
  | nil =>
   refine isTrue_or (wpAny_mono this (fun b s₂ z=>?_) fun z9 z9 z=>z)
   cases b with
   | true=>exact z
   | false=>exact isTrue_or_nil z
  | cons _ _=>exact this
theorem K0v {c x y:IE} {a b d:Expr} {p:Pos} (h1:SB prog w b0 os0 call init n Γ c a) (h2:SE prog w b0 os0 call init n Γ x b) (h3:SE prog w b0 os0 call init n Γ y d):SE prog w b0 os0 call init n Γ (.ife c x y) (.IfExp a b d p):=by
 intro env ρ σ s A fr Q X t q
 refine IfExp_ (k1y (h1 t q) fun b σ₁ s₁ S₁ q₁=>?_)
 cases b with
 | true =>
  simp only[if_true] at q₁ ⊢
  exact ww S₁ (h2 (t.step S₁) q₁)
 | false =>
  simp only[Bool.false_eq_true,if_false] at q₁ ⊢
  exact ww S₁ (h3 (t.step S₁) q₁)
variable (B:Ws Γ.K b0)
include B
theorem QC {A:Around} {fr:List Env} (h:k8H A fr n):A.units+2<cLine:=by have:=h.2.2.2;lia
theorem K0N {op:COp} {l r:IE} {a b:Expr} {o:CmpOp} {p:Pos} (e:o=op.op) (hm:behindInMarks o b=false) (h1:SE prog w b0 os0 call init n Γ l a) (h2:SE prog w b0 os0 call init n Γ r b):SE prog w b0 os0 call init n Γ (.cmp op l r) (.Compare a [o] [b] p):=by
 intro env ρ σ s A fr Q X t q
 subst e
 refine wpAny_Compare1 (Kz (h1 t q) fun x σ₁ u s₁ S₁ r₁ q₁=>?_) hm
 refine jb S₁ (Kz (h2 (t.step S₁) q₁) fun y σ₂ v s₂ S₂ r₂ q₂=>?_) fun z9 z9 z=>z
 refine wpAny_mono (jQ S₂.inv B.H (QC B t.room) (S₂.vr S₁.inv r₁) r₂ q₂) (fun z9 z9 z=>?_) fun z9 z9 z=>z
 refine x12 z ?_;clear z;intro c zr1 S₃ q₃;subst zr1
 exact PV.now (S₁.trans (S₂.trans S₃)) (by first | exact rfl | exact ⟨_,rfl⟩) q₃
theorem k9M {op:COp} {l r:IE} {a b:Expr} {o:CmpOp} {p:Pos} (e:o=op.op) (hm:behindInMarks o b=false) (h1:SE prog w b0 os0 call init n Γ l a) (h2:SE prog w b0 os0 call init n Γ r b):SB prog w b0 os0 call init n Γ (.cmp op l r) (.Compare a [o] [b] p):=by
 intro env ρ σ s A fr Q X t q
 subst e
 refine wpAny_isTrue_Compare1 (Kz (h1 t q) fun x σ₁ u s₁ S₁ r₁ q₁=>?_) hm
 refine jb S₁ (Kz (h2 (t.step S₁) q₁) fun y σ₂ v s₂ S₂ r₂ q₂=>?_) fun z9 z9 z=>z
 refine wpAny_mono (jQ S₂.inv B.H (QC B t.room) (S₂.vr S₁.inv r₁) r₂ q₂) (fun z9 z9 z=>?_) fun z9 z9 z=>z
 refine x12 z ?_;clear z;intro c zr1 S₃ q₃;subst zr1
 exact wpAny_truthy_bool ⟨_,S₁.trans (S₂.trans S₃),q₃⟩
theorem k7Z {p q:COp} {l m r:IE} {a b c:Expr} {o o':CmpOp} {ps:Pos} (e:o=p.op) (e':o'=q.op) (hm:lastMarks [o,o'] [b,c]=false) (h1:SE prog w b0 os0 call init n Γ l a) (h2:SE prog w b0 os0 call init n Γ m b) (h3:SE prog w b0 os0 call init n Γ r c):SE prog w b0 os0 call init n Γ (.cmp2 p q l m r) (.Compare a [o,o'] [b,c] ps):=by
 intro env ρ σ s A fr Q X t qq
 subst e e'
 refine Compare_chain (Kz (h1 t qq) fun x σ₁ u s₁ S₁ r₁ q₁=>?_) hm
 refine chain_link (jb S₁ (Kz (h2 (t.step S₁) q₁) fun y σ₂ v s₂ S₂ r₂ q₂=>?_) fun z9 z9 z=>z)
 refine wpAny_mono (jQ S₂.inv B.H (QC B t.room) (S₂.vr S₁.inv r₁) r₂ q₂) (fun z9 z9 z=>?_) fun z9 z9 z=>z
 refine x12 z ?_;clear z;intro cc zr1 S₃ q₃;subst zr1
 refine wpAny_truthy_bool ?_
 have S:=S₁.trans (S₂.trans S₃)
 cases cc with
 | false=>exact PV.now S (by first | exact rfl | exact ⟨_,rfl⟩) q₃
 | true =>
  simp only[if_true] at q₃ ⊢
  have a3:=(t.step S₁).step (S₂.trans S₃)
  refine chain_last (jb S (Kz (h3 a3 q₃) fun z σ₄ v₄ s₄ S₄ r₄ q₄=>?_) fun z9 z9 z=>z)
  refine wpAny_mono (jQ S₄.inv B.H (QC B t.room) (S₄.vr S₃.inv (S₃.vr S₂.inv r₂)) r₄ q₄) (fun z9 z9 z=>?_) fun z9 z9 z=>z
  obtain ⟨c',rfl,S₅,q₅⟩:=z
  exact PV.now (S.trans (S₄.trans S₅)) (by first | exact rfl | exact ⟨_,rfl⟩) q₅
theorem k9c {p q:COp} {l m r:IE} {a b c:Expr} {o o':CmpOp} {ps:Pos} (e:o=p.op) (e':o'=q.op) (hm:lastMarks [o,o'] [b,c]=false) (h1:SE prog w b0 os0 call init n Γ l a) (h2:SE prog w b0 os0 call init n Γ m b) (h3:SE prog w b0 os0 call init n Γ r c):SB prog w b0 os0 call init n Γ (.cmp2 p q l m r) (.Compare a [o,o'] [b,c] ps):=by
 intro env ρ σ s A fr Q X t qq
 subst e e'
 refine isTrue_chain (Kz (h1 t qq) fun x σ₁ u s₁ S₁ r₁ q₁=>?_) hm
 refine test_link (jb S₁ (Kz (h2 (t.step S₁) q₁) fun y σ₂ v s₂ S₂ r₂ q₂=>?_) fun z9 z9 z=>z)
 refine wpAny_mono (jQ S₂.inv B.H (QC B t.room) (S₂.vr S₁.inv r₁) r₂ q₂) (fun z9 z9 z=>?_) fun z9 z9 z=>z
 refine x12 z ?_;clear z;intro cc zr1 S₃ q₃;subst zr1
 refine wpAny_truthy_bool ?_
 have S:=S₁.trans (S₂.trans S₃)
 cases cc with
 | false=>exact ⟨_,S,q₃⟩
 | true =>
  simp only[if_true] at q₃ ⊢
  have a3:=(t.step S₁).step (S₂.trans S₃)
  refine test_last (jb S (Kz (h3 a3 q₃) fun z σ₄ v₄ s₄ S₄ r₄ q₄=>?_) fun z9 z9 z=>z)
  refine wpAny_mono (jQ S₄.inv B.H (QC B t.room) (S₄.vr S₃.inv (S₃.vr S₂.inv r₂)) r₄ q₄) (fun z9 z9 z=>?_) fun z9 z9 z=>z
  obtain ⟨c',rfl,S₅,q₅⟩:=z
  exact wpAny_truthy_bool ⟨_,S.trans (S₄.trans S₅),q₅⟩
end
section
variable {prog:Program} {w:World} {b0:Heap} {os0:OsState} {call:jH} {init:Addr→Option Addr} {n:Nat} {Γ:Ctx}
theorem k8j:SEs prog w b0 os0 call init n Γ [] []:=by
 intro env ρ σ s A fr Q X pos t q
 exact spliced_nil ⟨[],σ,.refl t.inv,.nil,rfl,q⟩
theorem k6R {ie:IE} {e:Expr} {as:List IE} {es:List Expr} (hs:KE e=true) (h1:SE prog w b0 os0 call init n Γ ie e) (h2:SEs prog w b0 os0 call init n Γ as es):SEs prog w b0 os0 call init n Γ (ie::as) (e::es):=by
 intro env ρ σ s A fr Q X pos t q
 refine er (yU hs) ?_
 refine Calls.spliced_cons (Kz (h1 t q) fun x σ₁ u s₁ S₁ r₁ q₁=>?_)
 refine jb S₁ (JU (h2 (t.step S₁) q₁) fun xs σ₂ vs s₂ S₂ r₂ q₂=>?_) fun z9 z9 z=>z
 exact ⟨x::xs,σ₂,S₁.trans S₂,.cons (S₂.vr S₁.inv r₁) r₂,by simp[q₂.1],q₂.2⟩
theorem k8S {as:List IE} {es:List Expr} {p:Pos} (hl:as.length≤1000) (h:SEs prog w b0 os0 call init n Γ as es):SE prog w b0 os0 call init n Γ (.list as) (.List es p):=by
 intro env ρ σ s A fr Q X t q
 refine List_ (JU (h t q) fun xs σ₁ vs s₁ S₁ r₁ q₁=>?_)
 refine wpAny_newList ?_ (by refine er r₁.length (er q₁.1 (er sizeLine_eq ?_));lia)
 exact (PV.newList (n:=0) (k:=s₁.toks) S₁.inv r₁ q₁.2).back S₁
theorem K0c {as:List IE} {es:List Expr} {k:Nat} {p:Pos} (hl:as.length≤1000) (h:SEs prog w b0 os0 call init n Γ as es):SE prog w b0 os0 call init n Γ (.tup as) (.Tuple es k p):=by
 intro env ρ σ s A fr Q X t q
 refine Tuple_ (JU (h t q) fun xs σ₁ vs s₁ S₁ r₁ q₁=>?_)
 refine wpAny_newTuple ?_ (by refine er r₁.length (er q₁.1 (er sizeLine_eq ?_));lia)
 exact (PV.newTup (n:=0) (k:=s₁.toks) S₁.inv r₁ q₁.2).back S₁
theorem k75:SO prog w b0 os0 call init n Γ none none:=by
 intro env ρ σ s A fr Q X t q
 refine er (evalPart_none _) ?_
 exact wpAny_pure ⟨_,σ,.refl t.inv,.none,q⟩
theorem k9t {ie:IE} {e:Expr} (h:SE prog w b0 os0 call init n Γ ie e):SO prog w b0 os0 call init n Γ (some ie) (some e):=by
 intro env ρ σ s A fr Q X t q
 refine er (evalPart_some _ _) ?_
 refine Kz (h t q) fun x σ₁ u s₁ S₁ r₁ q₁=>?_
 cases x with
 | int i =>
  obtain ⟨tk,rfl⟩:=r₁
  exact ⟨_,σ₁,S₁,.int i tk,(gsm q₁).2⟩
 | _=>exact q₁.elim
variable (B:Ws Γ.K b0)
include B
theorem K0n {o i:IE} {a b:Expr} {p:Pos} (hn:yQ b=true) (h1:SE prog w b0 os0 call init n Γ o a) (h2:SE prog w b0 os0 call init n Γ i b):SE prog w b0 os0 call init n Γ (.sub o i) (.Subscript a b p):=by
 intro env ρ σ s A fr Q X t q
 refine Subscript_ (Kz (h1 t q) fun x σ₁ u s₁ S₁ r₁ q₁=>?_)
 refine jb S₁ (Kz (h2 (t.step S₁) q₁) fun y σ₂ v s₂ S₂ r₂ q₂=>?_) fun z9 z9 z=>z
 refine wpAny_mono (zv (YM S₂.inv B.H (S₂.vr S₁.inv r₁) r₂ q₂) (ops:=[u,v]) ?_) (fun z9 z9 z=>(z.back S₂).back S₁) fun z9 z9 z=>z
 cases b <;> first | rfl | injection hn
theorem k6p {o:IE} {lo hi:Option IE} {a:Expr} {l u:Option Expr} {p p':Pos} (h1:SE prog w b0 os0 call init n Γ o a) (h2:SO prog w b0 os0 call init n Γ lo l) (h3:SO prog w b0 os0 call init n Γ hi u):SE prog w b0 os0 call init n Γ (.slice o lo hi) (.Subscript a (.Slice l u none p) p'):=by
 intro env ρ σ s A fr Q X t q
 refine Subscript_ (Kz (h1 t q) fun x σ₁ v s₁ S₁ r₁ q₁=>?_)
 refine jb S₁ (wpAny_Slice (wpAny_mono (h2 (t.step S₁) q₁) (fun vl s₂ z=>?_) fun z9 z9 z=>z)) fun z9 z9 z=>z
 refine x22 z ?_;clear z;intro pl σ₂ S₂ pp q₂
 have t2:=(t.step S₁).step S₂
 refine jb S₂ (wpAny_mono (h3 t2 q₂) (fun vu s₃ z=>?_) fun z9 z9 z=>z) fun z9 z9 z=>z
 refine x22 z ?_;clear z;intro pu σ₃ S₃ pp' q₃
 refine er (evalPart_none _) ?_
 refine wpAny_pure ?_
 refine wpAny_mono (zv (ZW S₃.inv (S₃.vr S₂.inv (S₂.vr S₁.inv r₁)) q₃ pp pp') (ops:=[.ref s₃.heap.objs.size,v]) rfl) (fun z9 z9 z=>((z.back S₃).back S₂).back S₁) fun z9 z9 z=>z
theorem k97 {o:IE} {a:Expr} {k:Nat} {p p' p1 p2:Pos} (h1:SE prog w b0 os0 call init n Γ o a):SE prog w b0 os0 call init n Γ (.rev o) (.Subscript a (.Slice none none (some (.UnaryOp .USub (.Constant (.int 1) k p1) p2)) p) p'):=by
 intro env ρ σ s A fr Q X t q
 refine Subscript_ (Kz (h1 t q) fun x σ₁ v s₁ S₁ r₁ q₁=>?_)
 refine wpAny_Slice ?_
 refine er (evalPart_none _) ?_;refine er (evalPart_some _ _) ?_
 refine wpAny_pure (wpAny_pure (UnaryOp_ ?_))
 have hc:∀ {R:Value→Shared→Prop} {E:Value→Shared→Prop},R (.int 1 s₁.toks) { s₁ with toks:=s₁.toks+1 }→wpAny (model prog w) A (eval (.Constant (.int 1) k p1) env) R E s₁:=fun h=>fun z9 z9 z9=>h
 refine hc (PyProof.Rows.neg_int ?_)
 have Sk:kQ prog w b0 os0 fr σ₁ s₁ σ₁ { s₁ with toks:=s₁.toks+1+1 }:=kQ.same S₁.inv
 have r2:VR ({ s₁ with toks:=s₁.toks+1+1 }:Shared).heap x v:=r₁
 refine wpAny_mono (zv (k0g Sk.inv r2 q₁) (ops:=[v,.ref s₁.heap.objs.size]) rfl) (fun z9 z9 z=>(z.back Sk).back S₁) fun z9 z9 z=>z
theorem k8f {C:Addr} {nm:List Nat} {o:IE} {a:Expr} {x:PySem.Str} {p:Pos} (hx:x=ke nm) (hc:yb Γ.K C (ke nm)=true) (hb:yg a=true) (h:SE prog w b0 os0 call init n Γ o a):SE prog w b0 os0 call init n Γ (.attr C nm o) (.Attribute a x p):=by
 intro env ρ σ s A fr Q X t q
 subst hx
 rw[arm_eval_Attribute,k0G hb]
 refine wpAny_bind (Kz (h t q) fun y σ₁ v s₁ S₁ r₁ q₁=>?_)
 refine wpAny_bind (wpAny_standAt (wpAny_bind (wpAny_holding ?_)))
 refine wpAny_mono (WU B.X S₁.inv hc r₁ q₁) (fun u s₂ z=>?_) fun z9 z9 z=>z
 exact wpAny_bind (wpAny_letTemporaryGo (wpAny_pure (z.back S₁)))
theorem K12 {f:BI} {as:List IE} {x:PySem.Str} {p p':Pos} {es:List Expr} (hx:K1f Γ f x=true) (hs:es.all KE=true) (h:SEs prog w b0 os0 call init n Γ as es):SE prog w b0 os0 call init n Γ (.bi f as) (.Call (.Name x p) es [] p'):=by
 intro env ρ σ s A fr Q X t q
 refine Call_ (k5Q B t hx ?_)
 refine k8M f.notRef hs (JU (h t q) fun xs σ₁ vs s₁ S₁ r₁ q₁=>?_)
 exact wpAny_mono (k3b S₁.inv t.room.1 r₁ q₁.2) (fun z9 z9 z=>z.back S₁) fun z9 z9 z=>z
theorem k9w {m:MN} {o:IE} {as:List IE} {a:Expr} {x:PySem.Str} {ap p:Pos} {es:List Expr} (hx:x=m.nm) (hb:yg a=true) (hl:(ap.endLine==p.line)=true) (hz:es.length<20) (hs:es.all KE=true) (h1:SE prog w b0 os0 call init n Γ o a) (h2:SEs prog w b0 os0 call init n Γ as es) :
  SE prog w b0 os0 call init n Γ (.meth m o as) (.Call (.Attribute a x ap) es [] p):=by
 intro env ρ σ s A fr Q X t q
 subst hx
 refine Uh hb hs hz hl (Kz (h1 t q) fun y σ₁ u s₁ S₁ r₁ q₁=>?_)
 intro pl
 replace q₁:=wB q₁
 refine x14 (k2M S₁.inv r₁ q₁.1) fun T pa slot ty hT hd=>?_
 refine getMethod_builtin hT pa slot ty hd ?_
 refine k8M (fun a e=>nomatch e) hs (jb S₁ (JU (h2 (t.step S₁) q₁.2) fun xs σ₂ vs s₂ S₂ r₂ q₂=>?_) fun z9 z9 z=>z)
 exact wpAny_mono (uC S₂.inv B.H (S₂.vr S₁.inv r₁) r₂ q₂.2) (fun z9 z9 z=>(z.back S₂).back S₁) fun z9 z9 z=>z
variable (hS:UA prog w b0 os0 call n)
include hS
theorem k7j {f:Addr} {as:List IE} {x:PySem.Str} {p p':Pos} {es:List Expr} (hx:QU Γ (.ref f) x=true) (hf:K0J Γ.K f=true) (hs:es.all KE=true) (h:SEs prog w b0 os0 call init n Γ as es):SE prog w b0 os0 call init n Γ (.callF f as) (.Call (.Name x p) es [] p'):=by
 intro env ρ σ s A fr Q X t q
 unfold K0J at hf
 simp only[Bool.and_eq_true,bne_iff_ne,ne_eq] at hf
 refine Call_ (qi B t hx fun u z9 hu=>?_)
 refine er (hu f rfl) ?_
 refine k62 hs hf.1.2 (JU (h t q) fun xs σ₁ vs s₁ S₁ r₁ q₁=>⟨S₁.inv.KIn B.X,?_⟩)
 exact ww S₁ (hS (.inr ⟨hf.2,rfl⟩) S₁.inv t.room r₁ q₁.2)
theorem k5T {i:Nat} {as:List IE} {x:PySem.Str} {p p':Pos} {es:List Expr} (hx:qX Γ i x=true) (hs:es.all KE=true) (h:SEs prog w b0 os0 call init n Γ as es):SE prog w b0 os0 call init n Γ (.callL i as) (.Call (.Name x p) es [] p'):=by
 intro env ρ σ s A fr Q X t q
 replace q:(match ρ[i]? with | some (some .lam)=>evs call init as ρ σ (fun xs σ=>call qU xs σ Q X) X | _=>False):=q
 cases hρ:ρ[i]? with
 | none=>rw[hρ] at q;exact q.elim
 | some o=>cases o with
  | none=>rw[hρ] at q;exact q.elim
  | some y=>cases y with
   | lam =>
    rw[hρ] at q
    refine Call_ (qf t hx hρ fun u ru=>?_)
    refine k8R hs (JU (h t q) fun xs σ₁ vs s₁ S₁ r₁ q₁=>?_)
    exact ⟨S₁.vr t.inv ru,ww S₁ (hS (.inl ⟨rfl,S₁.vr t.inv ru⟩) S₁.inv t.room r₁ q₁.2)⟩
   | _=>rw[hρ] at q;exact q.elim
theorem k5K {C f:Addr} {nm:List Nat} {o:IE} {as:List IE} {a:Expr} {x:PySem.Str} {ap p:Pos} {es:List Expr} (hx:x=ke nm) (hb:yg a=true) (hl:(ap.endLine==p.line)=true) (hz:es.length<20) (hs:es.all KE=true)
  (hg:plainGet Γ.K C x=true) (hm:findIn Γ.K (.ref C) x=some (some (.ref f))) (ht:isFn Γ.K (.ref f)=true) (hf:K0J Γ.K f=true) (h1:SE prog w b0 os0 call init n Γ o a) (h2:SEs prog w b0 os0 call init n Γ as es) :
  SE prog w b0 os0 call init n Γ (.imeth C f nm o as) (.Call (.Attribute a x ap) es [] p):=by
 intro env ρ σ s A fr Q X t q
 subst hx
 refine b3 hf fun z9 hf1 hf2=>Uh hb hs hz hl (Kz (h1 t q) fun y σ₁ u s₁ S₁ r₁ q₁=>?_)
 intro pl
 refine x33 q₁.1 fun a' d kvs ey ha hd hk=>UU S₁.inv ha hd fun ox od ps g1 g2 J g3 g4 r=>?_
 have q₂:=q₁.2
 rw[ey] at r₁ q₂
 obtain rfl:=r₁
 refine method_fn (S₁.inv.KIn B.X) J (plainGet_of hg).1 (plainGet_of hg).2 hm (beq_iff_eq.mp ht) ?_ ?_
 ·show (lookIn (ke nm) od).map _=_
  rw[uY g4 g3,wE r hk];rfl
 ·refine k62 hs hf1 (jb S₁ (JU (h2 (t.step S₁) q₂) fun xs σ₂ vs s₂ S₂ r₂ q₂=>⟨S₂.inv.KIn B.X,?_⟩) fun z9 z9 z=>z)
  exact wpAny_mono (hS (.inr ⟨bne_iff_ne.1 hf2,rfl⟩) S₂.inv t.room (.cons vrR r₂) q₂.2) (fun z9 z9 z=>(z.back S₂).back S₁) fun z9 z9 z=>z.back (S₁.trans S₂)
omit hS
theorem k9K (hN:k7S prog w b0 os0 call init n) {C:Addr} {as:List IE} {x:PySem.Str} {p p':Pos} {es:List Expr} (hx:QU Γ (.ref C) x=true) (hk:keepIn Γ.K (.ref C)=true) (hs:es.all KE=true) (h:SEs prog w b0 os0 call init n Γ as es):SE prog w b0 os0 call init n Γ (.new C as) (.Call (.Name x p) es [] p'):=by
 intro env ρ σ s A fr Q X t q
 refine Call_ (qi B t hx fun u z9 hu=>?_)
 refine er (hu C rfl) ?_
 refine k62 hs hk (JU (h t q) fun xs σ₁ vs s₁ S₁ r₁ q₁=>⟨S₁.inv.KIn B.X,?_⟩)
 have q₂:=q₁.2
 cases hf:init C with
 | none=>rw[hf] at q₂;exact q₂.elim
 | some f=>rw[hf] at q₂;exact ww S₁ (hN hf S₁.inv t.room r₁ q₂)
end
section
variable {M:Model} {A:Around} {E:Value→Shared→Prop} {s:Shared} {name qual:PySem.Str} {params:Arguments} {body:Expr} {scope:Scope} {env:Env} {c P:Addr} {ps:Array Value} {pos:Pos} {firstLine:Nat} {mg:PySem.Str→Option Value}
 {Q:Value→Shared→Prop}
theorem k6b (hcl:closureFor scope env=pure []) (hge0:env.globals=mainGlobals) (hg:s.heap.Ns mainGlobals mg) (hcode:env.code=.ref c) (C:CodeHd s.heap c P) (hP:s.heap.get? P=some (k3n ps)) (ht:TriplesOk ps.toList)
  (hnf:codeAmong pos ps.toList=none) (hgP:mainGlobals≠P) (hb:s.heap.BuiltinsAt mg P)
  (h:∀ c' oc vs t h' tk,Heap.ExtBut P s.heap h'→h'.get? c'=some oc→oc.cls=.type "code" → oc.data=.fields vs→vs[1]?=some (.str qual t)→h'.get? P=some (k3n (ps++#[rawInt pos.line,rawInt pos.col,.ref c'])) →
   Q (.ref h'.objs.size) { s with heap:=h'.push (kla_obj name qual params body scope [] ((mg "__name__").getD .none) c' .none),toks:=tk }) :
  wpAny M A (makeFunction name qual params (.expr body) scope env [] [] [] pos firstLine) Q E s:=by
 refine x27 hb ?_;clear hb;intro bm ob hbm hne0 z9 hneP hbo hcls hdict hdata
 rw[makeFunction_eq]
 simp only[List.zip_nil_right,List.filterMap_nil,List.isEmpty_nil,if_true,pure_bind]
 unfold makeTail
 rw[hcl];refine er hge0 ?_
 refine wpAny_bind (wpAny_pure ?_)
 simp only[List.isEmpty_nil,if_true]
 refine wpAny_bind (wpAny_pure ?_)
 refine wpAny_bind (wpAny_functionCodeX hcode (C.code hP ht) (C.tab hP) hnf fun c' h' tk hx hge hlt z9 hrec htb hcc=>?_)
 have hg':=hg.extBut hx hgP
 refine wpAny_bind (wpAny_builtinsFor hg' hbm hne0 (hx _ _ hneP hbo) hcls hdict hdata ?_)
 refine wpAny_bind (wpAny_nsGet hg' ?_)
 refine x43 hrec fun c₂ oc vs t e2 hoc hd hv=>x13 hcc fun P' z9 z9 zn3 z9=>x21 zn3 fun o vs' ho z=>?_
 rw[← Value.ref.inj e2] at hoc
 exact wpAny_bind (wpAny_pure (wpAny_newObj_type (h c' oc vs t h' tk hx hoc (Option.some.inj (ho.symm.trans hoc)▸z.1) hd hv htb.2) (by size_fits)))
end
section
variable {prog:Program} {w:World} {b0:Heap} {os0:OsState} {call:jH} {init:Addr→Option Addr} {n:Nat} {Γ:Ctx}
theorem k2n {h:Heap} {a:Addr} {m:PySem.Str→Option Value} (n:h.Ns a m):∃ o es ep,h.get? a=some o∧o.data=.dict es ep:=by
 refine x32 n ?_;clear n;intro o es ep e hd z9;exact ⟨o,es,ep,e,hd⟩
theorem k7a (nm q:PySem.Str) (p:Pos) (b:FuncBody) (sc:Scope) (g:Addr) (c:List (PySem.Str×Addr)) (d pm:Value) (an:Option Addr) (cd ct:Value) (bl:Addr) (v:Value):bindArgs ⟨nm,q,ZG p,b,sc,g,c,.none,.none,d,pm,an,cd,ct,bl⟩ ⟨[v],[]⟩=pure [(("entry" : PySem.Str),v)]:=by
 kernel_rfl
theorem k8v {σ:Sto} {P:Addr} {p:Pos} {q:PySem.Str} {R:Prop} (qq:match σ.get P with | some (.tab p' q')=>p'=p∧q'=q∧R | _=>False):σ.get P=some (.tab p q)∧R:=by
 cases h:σ.get P with
 | none=>rw[h] at qq;exact qq.elim
 | some c =>
  rw[h] at qq
  cases c with
  | tab p' q'=>refine er qq.1 (er qq.2.1 ?_);exact ⟨rfl,qq.2.2⟩
  | _=>exact qq.elim
section
variable {w:World} {env:Env} {ρ:Loc} {σ:Sto} {s:Shared} {A:Around} {fr:List Env} {Q:QV} {P c:Addr} {p pa:Pos} {q:PySem.Str} {pp:Nat→Pos} {kk:Nat→Nat} {sc:Scope}
theorem k7D {h:Heap} {a:Addr} {nm ql:PySem.Str} {pm ct:Value} {c':Addr} {oc:Obj} {vs:Array Value} {t:Tok} {o:Obj} (ho:h.get? a=some o) (hcl:o.cls=.type "function") (hd:o.data=.func (kla_fn nm ql (ZG pa) (zu pp kk) sc [] pm (.ref c') ct))
  (c4:sc.kind=.function) (c5:sc.isCoroutine=false) (c6:sc.isGenerator=false) (c7:sc.names=[(("entry" : PySem.Str),NameKind.local)]) (h1:h.get? c'=some oc) (h2:oc.cls=.type "code") (h3:oc.data=.fields vs) (h4:vs[1]?=some (.str ql t)):VR h .lam (.ref a) :=
 ⟨a,o,_,c',oc,vs,t,rfl,ho,hcl,hd,rfl,h1,h2,h3,h4,rfl,rfl,rfl,c4,c5,c6,c7,fun v=>k7a _ _ _ _ _ _ _ _ _ _ _ _ _ v,pp,kk,rfl⟩
theorem k5X (B:Ws Γ.K b0) (t:At prog w b0 os0 n Γ env ρ σ s A fr) (htab:Γ.tab=some (c,P,q)) (c4:sc.kind=.function) (c5:sc.isCoroutine=false) (c6:sc.isGenerator=false) (c7:sc.names=[(("entry" : PySem.Str),NameKind.local)])
  (c9:codeHdIn Γ.K c P=true) (hσ:σ.get P=some (.tab p q)) (qq:Q .lam (σ.upd P (.tab p q))):wpAny (model prog w) A (eval (.Lambda (ZG pa) (zu pp kk) sc p) env) (PV prog w b0 os0 fr σ s Q) E s :=
 x12 (t.inv.own _ _ hσ) fun ps hP htr hcase=>x41 B.T fun z9 loose mg mb T z=>x25 z fun bm ob b1 b2 b3 b4 b5 b6=>by
  have hoff:=t.inv.off _ (jx hσ)
  have hgP:mainGlobals≠P:=fun z=>x31 (k2n T.g) fun o es ep e z9=>by rw[z,hoff] at e;injection e
  have hbP:bm≠P:=fun z=>by rw[z,hoff] at b3;injection b3
  have hbG:bm≠mainGlobals:=fun z=>x31 (k2n T.g) fun o es ep e hd=>by rw[← z,b3] at e;rw[← Option.some.inj e,b6] at hd;injection hd
  have stay:∀ b o,b0.get? b=some o→s.heap.get? b=some o:=t.inv.stay
  have hcl:closureFor sc env=pure []:=by unfold closureFor;refine er c7 ?_;rfl
  refine kla_eval rfl ?_
  refine er ((t.tab c P q htab).2) ?_
  rcases hcase with hnf | hc
  ·refine k6b hcl t.env_.glob (T.g.keeps stay) (t.tab c P q htab).1 (codeHd_of_K (t.inv.KIn B.X) c9) hP htr hnf hgP ⟨bm,ob,b1,b2,hbG,hbP,stay _ _ b3,b4,b5,b6⟩ fun c' oc vs tt h' tk hx hoc hocc hocd hv htb=>?_
   exact PV.now (kQ.put t.inv (jx hσ) (c:=.tab p q) (fun b o nb e=>Heap.get?_push_of_some _ (hx b o nb e)) ⟨_,Heap.get?_push_of_some _ htb,by simpa [rawInt] using TriplesOk_snoc _ _ _ _ htr,.inr ⟨c',oc,vs,tt,by simpa [rawInt] using codeAmong_snoc (pos:=p) (c:=.ref c') ps.toList htr hnf,Heap.get?_push_of_some _ hoc,hocc,hocd,hv⟩⟩)
    (k7D (Heap.get?_push_size _ rfl) rfl rfl c4 c5 c6 c7 (Heap.get?_push_of_some _ hoc) hocc hocd hv) qq
  ·refine x44 hc fun c' oc vs tk hhit z1 z2 z3 z4=>kla_makeFunctionHit hcl t.env_.glob (T.g.keeps stay) (t.tab c P q htab).1 (codeHd_of_K (t.inv.KIn B.X) c9) hP htr hhit ⟨bm,ob,b1,b2,hbG,hbP,stay _ _ b3,b4,b5,b6⟩ fun ctv h' tk' hk hsz=>?_
   exact PV.now (kQ.put t.inv (jx hσ) (c:=.tab p q) (fun b o nb e=>Heap.get?_push_of_some _ (hk b o e)) ⟨_,Heap.get?_push_of_some _ (hk _ _ hP),htr,.inr ⟨c',oc,vs,tk,hhit,Heap.get?_push_of_some _ (hk _ _ z1),z2,z3,z4⟩⟩)
    (k7D (Heap.get?_push_size _ rfl) rfl rfl c4 c5 c6 c7 (Heap.get?_push_of_some _ (hk _ _ z1)) z2 z3 z4) qq
end
theorem K0k (B:Ws Γ.K b0) {P:Addr} {p:Pos} {q:PySem.Str} {e:Expr} (ck:k9F Γ P p q e=true):SE prog w b0 os0 call init n Γ (.lam P p q) e :=
 fun {env ρ σ s A fr Q X} t qq=>hs ck fun x h0 ck=>b8 ck fun cA cB c3 c4 c5 c6 c7 c8=>hs c8 fun y htab c8=>b3 c8 fun e1 e2 c9=>(k2X cA).elim fun pa ea=>x20 (k2B cB) fun pp kk eb=>by
  obtain ⟨hσ,qq⟩:=k8v qq
  refine er (k4v h0) (er ea (er eb (er (eq_of_beq c3) ?_)))
  exact k5X B t (c:=y.1) (by exact er htab (er (Eq.symm (eq_of_beq e1)) (er (Eq.symm (eq_of_beq e2)) rfl))) (eq_of_beq c4) (eq_of_beq c5) (eq_of_beq c6) (eq_of_beq c7) (eq_of_beq e1▸c9) hσ qq
end
section
variable {prog:Program} {w:World} {b0:Heap} {os0:OsState} {call:jH} {init:Addr→Option Addr} {n:Nat} {Γ:Ctx}
theorem k5F (B:Ws Γ.K b0) {env:Env} {ρ:Loc} {σ:Sto} {s:Shared} {A:Around} {l:List Env} (a:At prog w b0 os0 n Γ env ρ σ s A l) {x:PySem.Str} {pos:Pos} {R:Value→Shared→Prop} {E:Value→Shared→Prop} (ck:k0l Γ x=true) (h:R (.type "range") s) :
  wpAny (model prog w) A (eval (.Name x pos) env) R E s :=
 b3 ck fun c1 c2 c3=>x41 B.T fun p loose mg mb T z9=>by
  obtain rfl:=eq_of_beq c1
  refine Name_function_global a.kd (a.kind.trans (eq_of_beq c2)) (loadGlobal_builtin (mg:=mg) (mb:=mb) ?_ (mg_none_of B.X T.g (eq_of_beq c3)) ?_ ((T.builtins _ (by decide +kernel)).trans k2z) h) (by decide +kernel)
  ·refine er a.env_.glob ?_;exact T.g.keeps fun b o e=>a.inv.stay b o e
  ·refine er a.env_.blt ?_;exact T.b.keeps fun b o e=>a.inv.stay b o e
theorem i1 {xs:List V} {h:Heap} {vs:List Value} (r:VRs h xs vs) {a:Int} {is:List Int} (e:WP xs=some (a::is)) {G:Prop} (k:∀ v t ys vs',vs=v::vs'→v=.int a t→WP ys=some is→VRs h ys vs'→G):G:=by
 cases xs with
 | nil=>injection Option.some.inj e
 | cons x ys=>exact x22 r.cons_eq fun v vs' ev r1 r2=>Jq e fun t q e1 e2 et=>(k0N r1 e1).elim fun tk ek=>k v tk ys vs' ev (by exact er ek (er ((List.cons.inj et).1) rfl)) (by refine er (Eq.symm ((List.cons.inj et).2)) ?_;exact e2) r2
theorem i0 {xs:List V} {h:Heap} {vs:List Value} (r:VRs h xs vs) (e:WP xs=some []):vs=[]:=by
 cases xs with
 | nil=>exact r.nil_eq
 | cons x ys=>exact Jq e fun t q z9 z9 et=>by injection et
theorem k33 {xs is:List V} {h:Heap} {vs:List Value} (r:VRs h xs vs) (e:ZQ xs=some is) {G:Prop} (k1:∀ b t,vs=[.int b t] → -1000≤b∧b≤1000000→Kf 0 b 1=is→G)
  (k2:∀ a b t t',vs=[.int a t,.int b t'] → -1000≤a∧a≤1000000 ∧ -1000≤b∧b≤1000000→Kf a b 1=is→G)
  (k3:∀ a b c t t' t'',vs=[.int a t,.int b t',.int c t''] → -1000≤a∧a≤1000000 ∧ -1000≤b∧b≤1000000∧0<c∧c≤1000→Kf a b c=is→G):G :=
 ob e fun ns hn e=>by
  cases ns with
  | nil=>injection e
  | cons a ns =>
   refine i1 r hn fun v t ys vs' ev e1 hn r=>?_
   cases ns with
   | nil=>exact op (c := -1000≤a∧a≤1000000) e fun z e=>k1 a t (by exact er ev (er e1 (er (i0 r hn) rfl))) z e
   | cons b ns =>
    refine i1 r hn fun v' t' ys vs'' ev' e2 hn r=>?_
    cases ns with
    | nil=>exact op (c := -1000≤a∧a≤1000000 ∧ -1000≤b∧b≤1000000) e fun z e=>k2 a b t t' (by exact er ev (er e1 (er ev' (er e2 (er (i0 r hn) rfl))))) z e
    | cons c ns =>
     refine op (c:=ns.isEmpty=true ∧ -1000≤a∧a≤1000000 ∧ -1000≤b∧b≤1000000∧0<c∧c≤1000) e fun z e=>i1 r hn fun v'' t'' ys vs3 ev'' e3 hn r=>?_
     rw[List.isEmpty_iff.1 z.1] at hn
     exact k3 a b c t t' t'' (by exact er ev (er e1 (er ev' (er e2 (er ev'' (er e3 (er (i0 r hn) rfl))))))) z.2 e
theorem k9r {h:Heap} {o:Obj} {a b c:Int} {t t' t'':Tok} {is:List V} {σ:Sto} (hr:IsRange h a' a b c t t' t'') (z : -1000≤a∧a≤1000000 ∧ -1000≤b∧b≤1000000∧0<c∧c≤1000) (e:Kf a b c=is):zD σ h ⟨is,none⟩ (.ref a') :=
 .inr ⟨a',a,b,c,t,t',t'',rfl,hr,z.1,Int.le_trans z.2.1 (by decide),Int.le_trans (by decide) z.2.2.1,z.2.2.2.1,z.2.2.2.2.1,z.2.2.2.2.2,by exact er e rfl⟩
theorem k5M (B:Ws Γ.K b0) {as:List IE} {x:PySem.Str} {p p':Pos} {es:List Expr} (hx:k0l Γ x=true) (hs:es.all KE=true) (h:SEs prog w b0 os0 call init n Γ as es):SI prog w b0 os0 call init n Γ (.range as) (.Call (.Name x p) es [] p'):=by
 intro env ρ σ s A fr Q X t q
 refine Call_ (k5F B t hx (k8M (fun a e=>nomatch e) hs (JU (h t q) fun xs σ₁ vs s₁ S₁ r₁ q₁=>?_)))
 have grow:∀ {o:Obj} {tk:Tok},kQ prog w b0 os0 fr σ s σ₁ { s₁ with heap:=s₁.heap.push o,toks:=tk }:=S₁.trans (kQ.grow S₁.inv (kW _ _))
 refine su q₁.2 fun is his q₁=>k33 r₁ his (fun b t ev z e=>?_) (fun a b t t' ev z e=>?_) (fun a b c t t' t'' ev z e=>?_)
 ·refine er ev ?_;exact call_range_1 ⟨_,σ₁,grow,k9r (o:=default) (IsRange.new _ _ _ _ _ _ _) ⟨by decide,by decide,z.1,z.2,by decide,by decide⟩ e,q₁⟩
 ·refine er ev ?_;exact call_range_2 ⟨_,σ₁,grow,k9r (o:=default) (IsRange.new _ _ _ _ _ _ _) ⟨z.1,z.2.1,z.2.2.1,z.2.2.2,by decide,by decide⟩ e,q₁⟩
 ·refine er ev ?_;exact call_range_3 (Int.ne_of_gt z.2.2.2.2.1) ⟨_,σ₁,grow,k9r (o:=default) (IsRange.new _ _ _ _ _ _ _) z e,q₁⟩ (.inl (PyProof.noPylong_small (by omega)))
noncomputable def k7N (e:Expr):Bool:=(vw e).kUn.all (fun x=>x.1 != .Not)&&(vw e).kBoolOp.isNone&&(vw e).kIte.isNone&&(vw e).kCmp.isNone
set_option tactic.hygienic true in
theorem k3D {e:Expr} (h:k7N e=true) (env:Env) (whole:Sem Value):isTrue e env whole=(do let v ← whole;standAt e.pos;holding [v] (truthy v)):=by
 cases e <;> first | rfl | (injection h;done) | skip
 rename_i o _ _;cases o <;> first | rfl | injection h
noncomputable def k7T:IE→Bool
 | .not _=>false
 | .and ..=>false
 | .or ..=>false
 | .cmp ..=>false
 | .cmp2 ..=>false
 | .ife ..=>false
 | _=>true
theorem k49 {ie:IE} (h:k7T ie=true) (ρ:Loc) (σ:Sto) (Q:Bool→Sto→Prop) (X:QX):evB call init ie ρ σ Q X=ev call init ie ρ σ (fun x σ=>ZT x σ fun b=>Q b σ) X:=by
 cases ie <;> first | rfl | injection h
variable (prog w b0 os0 call init n) in
noncomputable def SS (Γ:Ctx) (ie:IE) (e:Expr):Prop:=SE prog w b0 os0 call init n Γ ie e∧(Qs ie=true→SB prog w b0 os0 call init n Γ ie e)
theorem ss {ie:IE} {e:Expr} (h:SE prog w b0 os0 call init n Γ ie e) (h1:k7T ie=true) (h2:k7N e=true):SS prog w b0 os0 call init n Γ ie e:=⟨h,fun z9=>k6x h (k3D h2) (k49 h1)⟩
variable (prog w b0 os0 call init n) in
structure k6D (k:Nat) (Γ:Ctx):Prop where
 e:∀ {ie e},ckE k Γ ie e=true→SS prog w b0 os0 call init n Γ ie e
 b:∀ {p o l r es},ckB k Γ p o l r es=true→∀ {G:Prop},(∀ x y rest e2,es=x::y::rest→e2=(match rest with | []=>y | _=>Expr.BoolOp o (y::rest) p)→SS prog w b0 os0 call init n Γ l x→SS prog w b0 os0 call init n Γ r e2→G)→G
 c:∀ {c ifs},ckC k Γ c ifs=true→SC prog w b0 os0 call init n Γ c ifs
 es:∀ {as es},k2H k Γ as es=true→SEs prog w b0 os0 call init n Γ as es
 ks:∀ {kvs ks vs},K1Z k Γ kvs ks vs=true→SK prog w b0 os0 call init n Γ kvs ks vs
 o:∀ {a e},ckO k Γ a e=true→SO prog w b0 os0 call init n Γ a e
 i:∀ {it e},ckI k Γ it e=true→SI prog w b0 os0 call init n Γ it e
theorem k95 {i:Nat} {x:PySem.Str} {p:Pos} (h:qX Γ i x=true):SE prog w b0 os0 call init n Γ (.loc i) (.Name x p):=by
 intro env ρ σ s A l Q X a q
 replace q:(match ρ[i]? with | some (some v)=>Q v σ | _=>False):=q
 cases hρ:ρ[i]? with
 | none=>rw[hρ] at q;exact q.elim
 | some o =>
  rw[hρ] at q
  cases o with
  | none=>exact q.elim
  | some v=>exact qf a h hρ fun u r=>PV.same' a.inv r q
theorem SS.s {ie:IE} {e:Expr} (h:SS prog w b0 os0 call init n Γ ie e):SE prog w b0 os0 call init n Γ ie e:=by obtain ⟨a,b⟩:=h;with_reducible exact a
theorem SS.t {ie:IE} {e:Expr} (h:SS prog w b0 os0 call init n Γ ie e) (q:Qs ie=true):SB prog w b0 os0 call init n Γ ie e:=by obtain ⟨a,b⟩:=h;with_reducible exact b q
theorem ck_e (hS:UA prog w b0 os0 call n) (hN:k7S prog w b0 os0 call init n) {k:Nat} (IH:∀ {Γ},Ws Γ.K b0→k6D prog w b0 os0 call init n k Γ) (B:Ws Γ.K b0) {ie:IE} {e:Expr} (h:ckE (k+1) Γ ie e=true):SS prog w b0 os0 call init n Γ ie e:=by
 have ih:=IH B
 cases ie with
 | cnone=>exact x20 (k6N h) fun kk p e=>by refine er e ?_;exact ss (fun a q z9 z9 z9=>PV.same' a.inv vrN q) rfl rfl
 | cbool b=>exact x20 (k1z (eq_of_beq h)) fun kk p e=>by refine er e ?_;exact ss (fun a q z9 z9 z9=>PV.same' a.inv vrO q) rfl rfl
 | cint i=>exact x20 (Yp (eq_of_beq h)) fun kk p e=>by refine er e ?_;exact ss (fun a q z9 z9 z9=>PV.same a.inv vrI q) rfl rfl
 | cstr i=>exact x20 (k32 (eq_of_beq h)) fun kk p e=>by refine er e ?_;exact ss (fun a q=>UN (PV.same a.inv vrS q)) rfl rfl
 | cbytes i=>exact x20 (k47 (eq_of_beq h)) fun kk p e=>by refine er e ?_;exact ss (fun a q z9 z9 z9=>PV.same a.inv vrB q) rfl rfl
 | loc i=>exact hs h fun x hx g=>(jE hx).elim fun p e=>by refine er e ?_;refine ss ?_ rfl rfl;with_reducible exact k95 g
 | glob v=>exact hs h fun x hx g=>(jE hx).elim fun p e=>by refine er e ?_;exact ss (fun a q=>qi B a g fun u r z9=>PV.same' a.inv r q) rfl rfl
 | bin op l r=>exact hs h fun x hx g=>b3 g fun g1 g2 g3=>(k37 hx).elim fun p e=>by refine er e ?_;refine ss ?_ rfl rfl;with_reducible exact K0H (eq_of_beq g1) (ih.e g2).s (ih.e g3).s
 | not i=>exact hs h fun x hx g=>b2 g fun g1 g2=>(k3Q hx).elim fun p e=>by refine er e (er (eq_of_beq g1) ?_);exact ⟨k9S (ih.e g2).s,fun ht=>k9V ((ih.e g2).t ht)⟩
 | neg i=>exact hs h fun x hx g=>b2 g fun g1 g2=>(k3Q hx).elim fun p e=>by refine er e (er (eq_of_beq g1) ?_);refine ss ?_ rfl rfl;with_reducible exact K0l (ih.e g2).s
 | and l r=>exact hs h fun x hx g=>b2 g fun g1 g2=>ih.b g2 fun y z rest e2 h0 he h1 h2=>by refine er (Zb hx) (er (eq_of_beq g1) (er h0 ?_));exact ⟨K0W h1.1 h2.1 he,fun ht=>b2 ht fun t1 t2=>k9X (h1.2 t1) (h2.2 t2) he⟩
 | or l r=>exact hs h fun x hx g=>b2 g fun g1 g2=>ih.b g2 fun y z rest e2 h0 he h1 h2=>by refine er (Zb hx) (er (eq_of_beq g1) (er h0 ?_));exact ⟨K1x h1.1 h2.1 he,fun ht=>b2 ht fun t1 t2=>K14 (h1.2 t1) (h2.2 t2) he⟩
 | cmp op l r=>exact hs h fun x hx g=>hs g fun o ho g=>hs g fun b hb g=>b4 g fun g1 g2 g3 g4=>(k03 hx).elim fun p e=>by refine er e (er (KP ho) (er (KP hb) ?_));exact ⟨K0N B (eq_of_beq g1) (eq_of_beq g2) (ih.e g3).s (ih.e g4).s,fun z9=>k9M B (eq_of_beq g1) (eq_of_beq g2) (ih.e g3).s (ih.e g4).s⟩
 | cmp2 o1 o2 l m r=>exact hs h fun x hx g=>hs g fun o ho g=>hs g fun b hb g=>b6 g fun g1 g2 g3 g4 g5 g6=>(k03 hx).elim fun p e=>by refine er e (er (k7q ho) (er (k7q hb) ?_));exact ⟨k7Z B (eq_of_beq g1) (eq_of_beq g2) (eq_of_beq g3) (ih.e g4).s (ih.e g5).s (ih.e g6).s,fun z9=>k9c B (eq_of_beq g1) (eq_of_beq g2) (eq_of_beq g3) (ih.e g4).s (ih.e g5).s (ih.e g6).s⟩
 | ife c t i=>exact hs h fun x hx g=>b4 g fun g1 g2 g3 g4=>(K0C hx).elim fun p e=>by refine er e ?_;exact ⟨K0v ((ih.e g2).t g1) (ih.e g3).s (ih.e g4).s,fun ht=>Bool.noConfusion (ht:false=true)⟩
 | attr C nm o=>exact hs h fun x hx g=>b4 g fun g1 g2 g3 g4=>by refine er (qE hx) ?_;refine ss ?_ rfl rfl;with_reducible exact k8f B (eq_of_beq g1) g2 g3 (ih.e g4).s
 | sub o i=>exact hs h fun x hx g=>b3 g fun g1 g2 g3=>(WQ hx).elim fun p e=>by refine er e ?_;refine ss ?_ rfl rfl;with_reducible exact K0n B g1 (ih.e g2).s (ih.e g3).s
 | slice o lo hi=>exact hs h fun x hx g=>hs g fun y hy g=>b4 g fun g1 g2 g3 g4=>(WQ hx).elim fun p e=>(uP hy).elim fun p' e'=>by refine er e (er e' (er (Jl g1) ?_));refine ss ?_ rfl rfl;with_reducible exact k6p B (ih.e g2).s (ih.o g3) (ih.o g4)
 | rev o=>exact hs h fun x hx g=>b2 g fun g h5=>hs g fun y hy g=>b3 g fun g1 g2 g=>hs g fun z hz g=>hs g fun u hu g=>b2 g fun g3 g4=>(WQ hx).elim fun p e=>(uP hy).elim fun p' e'=>(k3Q hu).elim fun p'' e''=>x20 (Yp (eq_of_beq g4)) fun kc pc e3=>by refine er e (er e' (er (Jl g1) (er (Jl g2) (er hz (er e'' (er (eq_of_beq g3) (er e3 ?_)))))));refine ss ?_ rfl rfl;with_reducible exact k97 B (ih.e h5).s
 | callF f as=>exact x41 (jG h) fun x px args pc e g=>b3 g fun g1 g2 g3=>by refine er e ?_;refine ss ?_ rfl rfl;with_reducible exact k7j B hS g1 g2 (jT g3) (ih.es g3)
 | callL i as=>exact x41 (jG h) fun x px args pc e g=>b2 g fun g1 g2=>by refine er e ?_;refine ss ?_ rfl rfl;with_reducible exact k5T B hS g1 (jT g2) (ih.es g2)
 | new C as=>exact x41 (jG h) fun x px args pc e g=>b3 g fun g1 g2 g3=>by refine er e ?_;refine ss ?_ rfl rfl;with_reducible exact k9K B hN g1 g2 (jT g3) (ih.es g3)
 | bi f as=>exact x41 (jG h) fun x px args pc e g=>b2 g fun g1 g2=>by refine er e ?_;refine ss ?_ rfl rfl;with_reducible exact K12 B g1 (jT g2) (ih.es g2)
 | meth m o as=>exact x52 (wS h) fun a x pa args pc e hp g=>b5 g fun g1 g2 g3 g4 g5=>by refine er e ?_;refine ss ?_ rfl rfl;with_reducible exact k9w B (eq_of_beq g1) g2 hp (of_decide_eq_true g3) (jT g5) (ih.e g4).s (ih.es g5)
 | imeth C f nm o as=>exact x52 (wS h) fun a x pa args pc e hp g=>b9 g fun g1 g2 g3 g4 g5 g6 g7 g8 g9=>by refine er e ?_;refine ss ?_ rfl rfl;with_reducible exact k5K B hS (eq_of_beq g1) g2 hp (of_decide_eq_true g3) (jT g9) g4 (eq_of_beq g5) g6 g7 (ih.e g8).s (ih.es g9)
 | list es=>exact hs h fun x hx g=>b2 g fun g1 g2=>(k6j hx).elim fun p e=>by refine er e ?_;refine ss ?_ rfl rfl;with_reducible exact k8S (of_decide_eq_true g1) (ih.es g2)
 | tup es=>exact hs h fun x hx g=>b2 g fun g1 g2=>x20 (k0P hx) fun kk p e=>by refine er e ?_;refine ss ?_ rfl rfl;with_reducible exact K0c (of_decide_eq_true g1) (ih.es g2)
 | dict kvs=>exact hs h fun x hx g=>b3 g fun g1 g2 g3=>(k5O hx).elim fun p e=>by refine er e ?_;exact ss (fun a q=>k24 a (ih.ks g1) (of_decide_eq_true g2) (of_decide_eq_true g3) q) rfl rfl
 | comp caps it cond elt=>exact x71 (Wi h) fun y x px iter ifs sc pos e g=>hs g fun xs hcaps g=>b5 g fun g1 g2 g3 g4 g5=>by refine er e ?_;exact ss (fun {env _ _ _ _ _ _ _} a q=>k25 B a g1 hcaps (fun y hy=>eq_of_beq (List.all_eq_true.mp g2 y hy)) (fun v=>wF g3 v env) (ih.i g3) ((IH (Γ:=jZ Γ x xs sc) B).c g4) ((IH (Γ:=jZ Γ x xs sc) B).e g5).1 q) rfl rfl
 | lam P p q=>exact hs h fun x hx g=>ss (K0k B h) rfl (by refine er (k4v hx) ?_;rfl)
theorem k3A (hS:UA prog w b0 os0 call n) (hN:k7S prog w b0 os0 call init n) (k:Nat):∀ {Γ},Ws Γ.K b0→k6D prog w b0 os0 call init n k Γ:=by
 induction k with
 | zero=>exact fun B=>⟨fun h=>Bool.noConfusion h,fun h=>Bool.noConfusion h,fun h=>Bool.noConfusion h,fun h=>Bool.noConfusion h,fun h=>Bool.noConfusion h,fun h=>Bool.noConfusion h,fun h=>Bool.noConfusion h⟩
 | succ k IH =>
  intro Γ B
  have ih:=IH B
  refine ⟨ck_e hS hN IH B,fun {p o l r es} h=>?_,fun {c ifs} h=>?_,fun {as es} h=>?_,fun {kvs ks vs} h=>?_,fun {a e} h=>?_,fun {it e} h=>?_⟩
  ·rcases es with _ | ⟨x,_ | ⟨y,rest⟩⟩
   ·injection h
   ·injection h
   ·refine b2 h fun h1 h2=>?_
    cases rest with
    | nil=>exact fun k=>k _ _ _ _ rfl rfl (ih.e h1) (ih.e h2)
    | cons z zs=>exact fun k=>k _ _ _ _ rfl rfl (ih.e h1) (ih.e h2)
  ·cases c with
   | none=>refine er (KN h) ?_;exact trivial
   | some c=>exact hs h fun t ht h=>b2 h fun h1 h2=>by refine er (KP ht) ?_;exact (ih.e h2).t h1
  ·cases as with
   | nil=>rw[KN h];with_reducible exact k8j
   | cons a as =>
    cases es with
    | nil=>injection h
    | cons e es=>exact b2 h fun h1 h2=>k6R (k1N h1) (ih.e h1).s (ih.es h2)
  ·cases kvs with
   | nil=>exact b2 h fun h1 h2=>by refine er (KN h1) ?_;refine er (KN h2) ?_;exact SK.nil
   | cons ka kvs =>
    cases ks with
    | nil=>injection h
    | cons kk ks =>
     cases vs with
     | nil=>injection h
     | cons v vs=>exact b3 h fun h1 h2 h3=>hs h1 fun kx e h1=>x20 (k32 (eq_of_beq h1)) fun ck p e'=>by refine er e ?_;refine er e' ?_;exact SK.cons rfl (ih.e h2).s (ih.ks h3)
  ·cases a with
   | none=>refine er (Jl h) ?_;exact k75
   | some a=>exact hs h fun x e h=>by refine er e ?_;exact k9t (ih.e h).s
  ·cases it with
   | e a=>exact fun t q=>Kz ((ih.e h).s t (q:ev call init a _ _ (fun v σ=>kT (ZR v σ) fun c=>_) _)) fun x σ₁ u s₁ S₁ r₁ q₁=>su q₁ fun c hc q₁=>⟨c,σ₁,S₁,.inl ⟨x,r₁,hc⟩,q₁⟩
   | range as=>exact x41 (jG h) fun x px args pc e g=>b2 g fun h1 h2=>by refine er e ?_;exact k5M B h1 (jT h2) (ih.es h2)
end
noncomputable def k08 (env:Env) (b:Addr):Prop:=b=env.locals∨∃ x,env.cells.lookup x=some b
structure Wu (b0:Heap) (env:Env):Prop where
 frame:env.frame=some env.locals
 apart:∀ x y c,env.cells.lookup x=some c→env.cells.lookup y=some c→x=y
 ne:∀ x c,env.cells.lookup x=some c→c≠env.locals
 n0:∀ x c,env.cells.lookup x=some c→b0.get? c=none
section
variable {prog:Program} {w:World} {b0:Heap} {os0:OsState} {call:jH} {init:Addr→Option Addr} {n:Nat} {Γ:Ctx} {env:Env} {ρ ρ':Loc} {σ σ' σ₀ σ₁ σ₂:Sto} {s s' s₀ s₁ s₂:Shared} {A:Around} {l:List Env} {h h':Heap}
variable (prog w b0 os0) in
structure Kc (env:Env) (l:List Env) (σ:Sto) (s:Shared) (σ':Sto) (s':Shared):Prop where
 inv:Inv prog w b0 os0 (env::l) σ' s'
 pre:∃ pre,σ'=pre++σ∧Ext (frs l) (fun b=>b∈pre.map (·.1)∨k08 env b) s.heap s'.heap
 dom:Dom σ s.heap σ'
 back:∀ a,s'.heap.get? a=none→s.heap.get? a=none
theorem Kc.ext (x:Kc prog w b0 os0 env l σ s σ' s'):Ext (frs l) (fun b=>σ.has b∨k08 env b) s.heap s'.heap:=by
 refine x11 x.pre fun pre e x1=>?_
 intro b o hb n
 refine x1 b o hb fun m=>?_
 rcases m with m | m
 ·rcases x.dom.2 b (e▸Sto.has_pre m) with q | q
  ·exact n (.inl q)
  ·rw[hb] at q;injection q
 ·exact n (.inr m)
theorem Kc.refl (I:Inv prog w b0 os0 (env::l) σ s):Kc prog w b0 os0 env l σ s σ s:=⟨I,⟨[],rfl,.refl⟩,.refl,fun z9 e=>e⟩
theorem Kc.trans (x:Kc prog w b0 os0 env l σ s σ₁ s₁) (y:Kc prog w b0 os0 env l σ₁ s₁ σ₂ s₂):Kc prog w b0 os0 env l σ s σ₂ s₂:=by
 refine ⟨y.inv,?_,⟨fun a e=>y.dom.1 a (x.dom.1 a e),fun a e=>?_⟩,fun a e=>x.back a (y.back a e)⟩
 ·refine x11 x.pre fun p1 e1 x1=>?_
  refine x11 y.pre fun p2 e2 x2=>?_
  refine ⟨p2++p1,by refine er e2 ?_;refine er e1 ?_;refine er (List.append_assoc _ _ _) ?_;rfl,?_⟩
  refine Ext.trans (X:=fun b=>b∈(p2++p1).map (·.1)∨k08 env b) (x1.mono fun b m=>?_) x2 fun b o e n m=>n ?_
  ·refine er List.map_append ?_;exact m.imp (fun m=>List.mem_append_right _ m) id
  ·refine er List.map_append ?_;exact m.imp (fun m=>List.mem_append_left _ m) id
 ·rcases y.dom.2 a e with q | q
  ·exact x.dom.2 a q
  ·exact .inr (x.back a q)
theorem qI (F:Wu b0 env):frs (env::l)=env.locals::frs l:=by simp[frs,List.filterMap_cons,F.frame]
theorem Kc.ofStep (F:Wu b0 env) (S:kQ prog w b0 os0 (env::l) σ s σ' s'):Kc prog w b0 os0 env l σ s σ' s':=by
 refine x11 S.pre fun pre e x=>?_
 refine ⟨S.inv,⟨pre,e,fun b o hb n=>?_⟩,S.dom,fun a=>S.back⟩
 obtain ⟨x1,sl,x2⟩:=x b o hb fun m=>n (.inl m)
 refine ⟨fun q=>x1 ?_,sl,x2⟩
 rw[qI F,List.mem_cons]
 rintro (z | z)
 ·exact n (.inr (.inl z))
 ·exact q z
theorem At.own_not (a:At prog w b0 os0 n Γ env ρ σ s A (env::l)) (F:Wu b0 env) {b:Addr} (o:k08 env b):¬ σ.has b∧b0.get? b=none∧∃ ob,s.heap.get? b=some ob∧¬ JS ob:=by
 rcases o with rfl | ⟨x,e⟩
 ·refine bc fun zg=>?_
  refine x11 a.env_.locs fun m hn z9=>?_
  refine x31 (id hn) fun ob es ep ho z9=>?_
  refine zg ?_;clear zg
  exact ⟨a.env_.offL,(a.inv.frames.mem (b:=env.locals) (by show env.locals∈frs (env::l);refine er (qI F) ?_;simp)).1,ob,ho,JE hn ob ho⟩
 ·refine bc fun zg=>?_
  obtain ⟨e1,zz0⟩:=a.env_.offC x b e;refine x21 zz0 fun o v e2 e3=>?_
  refine zg ?_;clear zg
  refine ⟨e1,F.n0 x b e,o,e2,?_⟩
  rintro (⟨_,_,rfl⟩ | ⟨_,_,z⟩ | ⟨_,_,z⟩)
  ·injection e3
  ·rw[e3] at z;injection z
  ·rw[e3] at z;injection z
theorem Kc.tupKeep (F:Wu b0 env) (a:At prog w b0 os0 n Γ env ρ σ s A (env::l)) (S:Kc prog w b0 os0 env l σ s σ' s'):KW s.heap s'.heap:=fun b o st e=>by
 have nO:¬ k08 env b:=fun z=>by
  refine x02 (a.own_not F z) fun z9 z9 zz0=>?_;refine x11 zz0 fun ob e1 e2=>?_
  rw[e1] at e;injection e with e;subst e;exact e2 st
 have nH:¬ σ.has b:=fun z=>by
  cases q:σ.get b with
  | none=>exact z q
  | some c=>exact (a.inv.own b c q).notStill st e
 refine (S.ext b o e (fun z=>z.elim nH nO)).1 fun q=>?_
 refine x31 (a.inv.frD b (by refine er (qI F) ?_;exact List.mem_cons_of_mem _ q)) fun o' es m ho hd=>?_
 rw[ho] at e;injection e with e;subst e
 rcases st with ⟨vs,n,e⟩ | ⟨_,_,e⟩ | ⟨_,_,e⟩
 ·subst e;injection hd
 ·rw[hd] at e;injection e
 ·rw[hd] at e;injection e
theorem Kc.toStep (T:kQ prog w b0 os0 l σ₀ s₀ σ s) (S:Kc prog w b0 os0 env l σ s σ' s') (I:Inv prog w b0 os0 l σ' s') (fr:∀ b,k08 env b→s₀.heap.get? b=none):kQ prog w b0 os0 l σ₀ s₀ σ' s':=by
 refine bc fun zg=>?_
 refine x11 T.pre fun p1 e1 x1=>?_
 refine x11 S.pre fun p2 e2 x2=>?_
 refine zg ?_;clear zg
 refine ⟨I,⟨p2++p1,by refine er e2 ?_;refine er e1 ?_;refine er (List.append_assoc _ _ _) ?_;rfl,fun b o hb n=>?_⟩,⟨fun a e=>S.dom.1 a (T.dom.1 a e),fun a e=>?_⟩⟩
 ·refine bc fun zg=>?_
  simp only[List.map_append,List.mem_append,not_or] at n
  obtain ⟨a1,sl,a2⟩:=x1 b o hb n.2
  refine zg ?_;clear zg
  have nO:¬ (b∈p2.map (·.1)∨k08 env b):=fun z=>z.elim n.1 fun q=>by rw[fr b q] at hb;injection hb
  refine ⟨fun q=>(x2 b o (a1 q) nO).1 q,?_⟩
  refine bc fun zg=>?_
  obtain ⟨_,sl',z⟩:=x2 b _ a2 nO
  refine zg ?_;clear zg
  exact ⟨sl',z⟩
 ·rcases S.dom.2 a e with q | q
  ·exact T.dom.2 a q
  ·exact .inr (T.back q)
theorem Inv.pop (I:Inv prog w b0 os0 (env::l) σ s):Inv prog w b0 os0 l σ s where
 own:=I.own
 stay:=I.stay
 off:=I.off
 frames:=I.frames.2.2
 offF a e m:=I.offF a e (by
  unfold frs at m ⊢
  refine er List.filterMap_cons ?_;split
  ·exact m
  ·exact List.mem_cons_of_mem _ m)
 frD b m:=I.frD b (by
  unfold frs at m ⊢
  refine er List.filterMap_cons ?_;split
  ·exact m
  ·exact List.mem_cons_of_mem _ m)
 gens:=I.gens
 os:=I.os
noncomputable def k6M (h:Heap):Option V→Flow→Prop
 | none,f=>f=.next
 | some v,f=>∃ u,f=.ret u∧VR h v u
variable (prog w b0 os0 n) in
def PS (Γ:Ctx) (env:Env) (A:Around) (l:List Env) (σ:Sto) (s:Shared) (Q:QS):Flow→Shared→Prop:=fun f s' =>
 ∃ o ρ' σ',Kc prog w b0 os0 env l σ s σ' s'∧At prog w b0 os0 n Γ env ρ' σ' s' A (env::l)∧k6M s'.heap o f∧Q o ρ' σ'
variable (prog w b0 os0 n) in
def PXS (Γ:Ctx) (env:Env) (A:Around) (l:List Env) (σ:Sto) (s:Shared) (X:QXS):Value→Shared→Prop:=fun v s' =>
 ∃ ρ' e σ',v=.ref e∧Kc prog w b0 os0 env l σ s σ' s'∧At prog w b0 os0 n Γ env ρ' σ' s' A (env::l)∧Fly s.heap σ' e s'.heap∧X ρ' e σ'
theorem PS.back {Q:QS} {f:Flow} {s'':Shared} (S:Kc prog w b0 os0 env l σ s σ' s') (p:PS prog w b0 os0 n Γ env A l σ' s' Q f s''):PS prog w b0 os0 n Γ env A l σ s Q f s'':=by
 refine x33 p ?_;clear p;intro o ρ' σ₂ a b c d
 exact ⟨o,ρ',σ₂,S.trans a,b,c,d⟩
theorem PXS.back {X:QXS} {f:Value} {s'':Shared} (S:Kc prog w b0 os0 env l σ s σ' s') (p:PXS prog w b0 os0 n Γ env A l σ' s' X f s''):PXS prog w b0 os0 n Γ env A l σ s X f s'':=by
 refine x34 p ?_;clear p;intro ρ' e σ₂ zr3 a b c d;subst zr3
 exact ⟨ρ',e,σ₂,rfl,S.trans a,b,c.back fun z=>S.back _ z,d⟩
theorem PXS.ofPX (F:Wu b0 env) (a:At prog w b0 os0 n Γ env ρ σ s A (env::l)) {X:QXS} {v:Value} {s'':Shared} (p:PX prog w b0 os0 (env::l) σ s (X ρ) v s''):PXS prog w b0 os0 n Γ env A l σ s X v s'':=by
 refine x23 p ?_;clear p;intro e σ₂ zr2 S f q;subst zr2
 exact ⟨ρ,e,σ₂,rfl,.ofStep F S,a.step S,f,q⟩
theorem k8m {v:Value} {s':Shared} (p:PXS prog w b0 os0 n Γ env A l σ s (fun z9 z9 z9=>False) v s'):False:=by
 refine x34 p ?_;clear p;intro z9 z9 z9 z9 z9 z9 z9 q;exact q
theorem PS.next {Q:QS} (S:Kc prog w b0 os0 env l σ s σ' s') (a:At prog w b0 os0 n Γ env ρ' σ' s' A (env::l)) (q:Q none ρ' σ'):PS prog w b0 os0 n Γ env A l σ s Q .next s':=⟨none,ρ',σ',S,a,rfl,q⟩
theorem PS.ret {Q:QS} {v:V} {u:Value} (S:Kc prog w b0 os0 env l σ s σ' s') (a:At prog w b0 os0 n Γ env ρ' σ' s' A (env::l)) (r:VR s'.heap v u) (q:Q (some v) ρ' σ'):PS prog w b0 os0 n Γ env A l σ s Q (.ret u) s':=⟨some v,ρ',σ',S,a,⟨u,rfl,r⟩,q⟩
theorem Loc.put_at {i j:Nat} {v av:V} (e:(ρ.put i v)[j]?=some (some av)):(j=i∧av=v)∨(j≠i∧ρ[j]?=some (some av)):=by
 unfold Loc.put at e
 rw[List.getElem?_set] at e
 by_cases z:i=j
 ·subst z
  rw[if_pos rfl] at e
  split at e
  ·simp at e;exact .inl ⟨rfl,e.symm⟩
  ·injection e
 ·rw[if_neg z] at e;exact .inr ⟨Ne.symm z,e⟩
theorem ZI {xs:List PySem.Str} (nd:xs.Nodup) {i j:Nat} {x:PySem.Str} (e1:xs[i]?=some x) (e2:xs[j]?=some x):i=j:=by
 obtain ⟨h1,e1⟩:=List.getElem?_eq_some_iff.mp e1
 obtain ⟨h2,e2⟩:=List.getElem?_eq_some_iff.mp e2
 have:=List.getElem_inj nd (h₀:=h1) (h₁:=h2)
 exact this.mp (e1.trans e2.symm)
theorem Inv.pokeL (F:Wu b0 env) (I:Inv prog w b0 os0 (env::l) σ s) {tk:Tok} {m:PySem.Str→Option Value} (ns:∀ o,s.heap.get? env.locals=some o→¬ JS o) (hn:h'.Ns env.locals m) (k:∀ b o,b≠env.locals→s.heap.get? b=some o→h'.get? b=some o) :
  Inv prog w b0 os0 (env::l) σ { s with heap:=h',toks:=tk }:=by
 have T:KW s.heap h':=jl ns k
 have mL:env.locals∈frs (env::l):=by refine er (qI F) ?_;simp
 have nb:b0.get? env.locals=none:=(I.frames.mem mL).1
 refine x32 hn ?_;clear hn;intro oL es ep hoL hdL z9
 refine ⟨fun b c q=>(I.own b c q).of_get T fun o r=>k b o (fun z=>I.offF b (jx q) (z▸mL)) r,fun b o q=>k b o (fun z=>by rw[z,nb] at q;injection q) (I.stay b o q),I.off,?_,I.offF,fun b q=>?_,I.gens,I.os⟩
 ·have:∀ m:List Env,s.heap.FunFrames b0 m→h'.FunFrames b0 m:=by
   intro m
   induction m with
   | nil=>intro z9;trivial
   | cons e r ih =>
    rintro ⟨hk,⟨L,oL',hf,hn,ho,hd⟩,hr⟩
    by_cases z:L=env.locals
    ·subst z;exact ⟨hk,⟨_,oL,hf,hn,hoL,fun vs q=>by rw[hdL] at q;injection q⟩,ih hr⟩
    ·exact ⟨hk,⟨L,oL',hf,hn,k _ _ z ho,hd⟩,ih hr⟩
  exact this _ I.frames
 ·by_cases z:b=env.locals
  ·subst z;exact ⟨oL,es,ep,hoL,hdL⟩
  ·refine x31 (I.frD b q) fun o' es n r d=>?_
   exact ⟨o',es,n,k _ _ z r,d⟩
theorem At.ownF (F:Wu b0 env) (a:At prog w b0 os0 n Γ env ρ σ s A (env::l)) {x:PySem.Str} {c:Addr} (e:env.cells.lookup x=some c):c∉frs (env::l):=fun m=>by
 refine x31 (a.inv.frD c m) fun o es n ho hd=>?_
 obtain ⟨_,zz0⟩:=a.env_.offC x c e;refine x21 zz0 fun o' v ho' hd'=>?_
 rw[ho] at ho';injection ho' with ho';subst ho';rw[hd] at hd';injection hd'
theorem At.setL (F:Wu b0 env) (a:At prog w b0 os0 n Γ env ρ σ s A (env::l)) {tk:Tok} {m:PySem.Str→Option Value} (hn:h'.Ns env.locals m) (sb:Heap.SameBut env.locals s.heap h')
  (hl:∀ (i:Nat) (x:PySem.Str) (av:V),Γ.vars[i]?=some x→env.kindOf x=some .local→ρ'[i]?=some (some av)→∃ v,m x=some v∧VR s.heap av v)
  (hc:∀ (i:Nat) (x:PySem.Str) (av:V),Γ.vars[i]?=some x→env.kindOf x=some .cell→ρ'[i]?=some (some av)→ρ[i]?=some (some av)) :
  Kc prog w b0 os0 env l σ s σ { s with heap:=h',toks:=tk }∧At prog w b0 os0 n Γ env ρ' σ { s with heap:=h',toks:=tk } A (env::l):=by
 have k:∀ b o,b≠env.locals→s.heap.get? b=some o→h'.get? b=some o:=fun b o nb e=>sb.extBut b o nb e
 refine x11 a.env_.locs fun m0 hn0 z9=>?_
 have ns:=JE hn0
 have K:=jl ns k
 have I:=Inv.pokeL F a.inv (tk:=tk) ns hn k
 refine ⟨⟨I,⟨[],rfl,.of_keeps fun b o e nq=>k b o (fun z=>nq (.inr (.inl z))) e⟩,.refl,fun b e=>?_⟩,⟨a.names,⟨a.env_.kind,a.env_.glob,a.env_.blt,⟨m,hn,fun i x av e1 e2 e3=>?_⟩,fun i x av e1 e2 e3=>?_,a.env_.kinds,a.env_.all,a.env_.offL,fun x c e=>?_⟩,I,a.room,a.tab⟩⟩
 ·by_cases z:b=env.locals
  ·subst z;refine x31 hn ?_;clear hn;intro o z9 z9 ho z9;simp only at e;rw[ho] at e;injection e
  ·cases q:s.heap.get? b with
   | none=>rfl
   | some o=>have:=k b o z q;simp only at e;rw[e] at this;injection this
 ·refine x11 (hl i x av e1 e2 e3) fun v h1 h2=>?_
  exact ⟨v,h1,h2.keep K⟩
 ·refine x22 (a.env_.cells i x av e1 e2 (hc i x av e1 e2 e3)) fun c v h1 h2 h3=>?_
  exact ⟨c,v,h1,h2.sameBut sb (F.ne x c h1),h3.keep K⟩
 ·obtain ⟨h1,zz0⟩:=a.env_.offC x c e;refine x21 zz0 fun o v h2 h3=>?_
  exact ⟨h1,o,v,k c o (F.ne x c e) h2,h3⟩
theorem At.setC (F:Wu b0 env) (a:At prog w b0 os0 n Γ env ρ σ s A (env::l)) {tk:Tok} {x:PySem.Str} {c:Addr} {u:Option Value} (hc0:env.cells.lookup x=some c) (hn:h'.IsCell c u) (sb:Heap.SameBut c s.heap h')
  (hl:∀ (i:Nat) (x:PySem.Str) (av:V),Γ.vars[i]?=some x→env.kindOf x=some .local→ρ'[i]?=some (some av)→ρ[i]?=some (some av))
  (hc:∀ (i:Nat) (y:PySem.Str) (av:V),Γ.vars[i]?=some y→env.kindOf y=some .cell→ρ'[i]?=some (some av)→(y=x∧∃ v,u=some v∧VR s.heap av v)∨(y≠x∧ρ[i]?=some (some av))) :
  Kc prog w b0 os0 env l σ s σ { s with heap:=h',toks:=tk }∧At prog w b0 os0 n Γ env ρ' σ { s with heap:=h',toks:=tk } A (env::l):=by
 refine bc fun zg=>?_
 have k:∀ b o,b≠c→s.heap.get? b=some o→h'.get? b=some o:=fun b o nb e=>sb.extBut b o nb e
 refine x02 (a.own_not F (.inr ⟨x,hc0⟩)) fun nH nB zz0=>?_;refine x11 zz0 fun oc hoc ns0=>?_
 refine zg ?_;clear zg
 have ns:∀ o,s.heap.get? c=some o→¬ JS o:=fun o e=>by rw[hoc] at e;injection e with e;subst e;exact ns0
 have K:=jl ns k
 have I:=a.inv.poke (tk:=tk) nB nH (a.ownF F hc0) ns k
 refine x11 a.env_.locs fun m0 hn0 hl0=>?_
 refine ⟨⟨I,⟨[],rfl,.of_keeps fun b o e nq=>k b o (fun z=>nq (.inr (.inr ⟨x,z▸hc0⟩))) e⟩,.refl,fun b e=>?_⟩,⟨a.names,⟨a.env_.kind,a.env_.glob,a.env_.blt,⟨m0,hn0.sameBut sb (F.ne x c hc0).symm,fun i y av e1 e2 e3=>?_⟩,fun i y av e1 e2 e3=>?_,a.env_.kinds,a.env_.all,a.env_.offL,fun y d e=>?_⟩,I,a.room,a.tab⟩⟩
 ·by_cases z:b=c
  ·subst z;refine x11 hn ?_;clear hn;intro o ho z9;simp only at e;rw[ho] at e;injection e
  ·cases q:s.heap.get? b with
   | none=>rfl
   | some o=>have:=k b o z q;simp only at e;rw[e] at this;injection this
 ·refine x11 (hl0 i y av e1 e2 (hl i y av e1 e2 e3)) fun v h1 h2=>?_
  exact ⟨v,h1,h2.keep K⟩
 ·rcases hc i y av e1 e2 e3 with ⟨rfl,v,rfl,r⟩ | ⟨ne,q⟩
  ·exact ⟨c,v,hc0,hn,r.keep K⟩
  ·refine x22 (a.env_.cells i y av e1 e2 q) fun d v h1 h2 h3=>?_
   exact ⟨d,v,h1,h2.sameBut sb (fun z=>ne (F.apart y x c (z▸h1) hc0)),h3.keep K⟩
 ·refine bc fun zg=>?_
  obtain ⟨h1,zz0⟩:=a.env_.offC y d e;refine x21 zz0 fun o v h2 h3=>?_
  refine zg ?_;clear zg
  by_cases z:d=c
  ·refine bc fun zg=>?_
   subst z
   refine x11 hn ?_;clear hn;intro o' ho' hd'
   refine zg ?_;clear zg
   exact ⟨h1,o',_,ho',hd'⟩
  ·exact ⟨h1,o,v,k d o z h2,h3⟩
theorem Jx (F:Wu b0 env) (a:At prog w b0 os0 n Γ env ρ σ s A (env::l)) (nd:Γ.vars.Nodup) {A':Around} {i:Nat} {x:PySem.Str} {v:V} {u:Value} {Q:Unit→Shared→Prop} {E:Value→Shared→Prop} (hx:Γ.vars[i]?=some x) (r:VR s.heap v u)
  (k:∀ s',Kc prog w b0 os0 env l σ s σ s'→At prog w b0 os0 n Γ env (ρ.put i v) σ s' A (env::l)→Q () s'):wpAny (model prog w) A' (storeName env x u) Q E s:=by
 rcases a.env_.kinds x (List.mem_of_getElem? hx) with hk | hk
 ·refine x11 a.env_.locs fun m hn hm=>?_
  refine wpAny_storeName_local hk hn (fun h' hn' sb=>?_) (by refine er a.env_.kind ?_;rfl)
  have Z:=a.setL F (ρ':=ρ.put i v) (tk:=s.toks+1) hn' sb (fun j y av e1 e2 e3=>by
   rcases Loc.put_at e3 with ⟨rfl,rfl⟩ | ⟨ne,q⟩
   ·rw[hx] at e1;injection e1 with e1;subst e1
    exact ⟨u,by simp,r⟩
   ·refine x11 (hm j y av e1 e2 q) fun v' h1 h2=>?_
    have:y≠x:=fun z=>ne (ZI nd (z▸e1) hx)
    exact ⟨v',by simp[this,h1],h2⟩) (fun j y av e1 e2 e3=>by
   rcases Loc.put_at e3 with ⟨rfl,rfl⟩ | ⟨ne,q⟩
   ·rw[hx] at e1;injection e1 with e1;subst e1;rw[hk] at e2;cases e2
   ·exact q)
  exact k _ Z.1 Z.2
 ·refine bc fun zg=>?_
  obtain ⟨c,hc⟩:=a.env_.all x hk
  obtain ⟨_,zz0⟩:=a.env_.offC x c hc;refine x21 zz0 fun o v0 ho hd=>?_
  refine zg ?_;clear zg
  refine wpAny_storeName_cell a.env_.kind hk hc ⟨o,ho,hd⟩ fun h' hn' sb=>?_
  have Z:=a.setC F (ρ':=ρ.put i v) (tk:=s.toks) hc hn' sb (fun j y av e1 e2 e3=>by
   rcases Loc.put_at e3 with ⟨rfl,rfl⟩ | ⟨ne,q⟩
   ·rw[hx] at e1;injection e1 with e1;subst e1;rw[hk] at e2;cases e2
   ·exact q) (fun j y av e1 e2 e3=>by
   rcases Loc.put_at e3 with ⟨rfl,rfl⟩ | ⟨ne,q⟩
   ·rw[hx] at e1;injection e1 with e1;subst e1
    exact .inl ⟨rfl,u,rfl,r⟩
   ·exact .inr ⟨fun z=>ne (ZI nd (z▸e1) hx),q⟩)
  exact k _ Z.1 Z.2
end
noncomputable def jW (e:Expr):Bool := !(Nat.ble 8 e.ctorIdx&&Nat.ble e.ctorIdx 10)
theorem Wr {v:Expr} {t:Option Expr} {ln:Nat} {env:Env} (h:jW v=true):swapsWith v t ln env=pure false:=by
 cases v <;> first | rfl | exact ft h
noncomputable def k9j (Γ:Ctx):List Nat→List Expr→Bool
 | [],ts=>ts.isEmpty
 | i::is,ts=>has ts.head? fun t=>has (yq t) fun x=>Γ.vars[i]?==some x&&k9j Γ is ts.tail
noncomputable def K1E (names:List (PySem.Str×NameKind)) (ts vs:List Expr):Option (Option (List PySem.Str)) :=
  if (!(ts.length==2||ts.length==3)||vs.length != ts.length)=true then some none
  else if (vs.any fun x=>swappedStores.match_5 (fun z9=>Bool) x (fun z9 z9=>true) fun z9=>false)=true then some none
  else
   let line:=(ts.head?.map (·.pos.line)).getD 0
   let ns:=ts.filterMap fun x=>swappedStores.match_8 (fun z9=>Option PySem.Str) x (fun id pos=>if names.lookup id==some .local&&pos.line==line then some id else none) fun z9=>none
   if (ns.length != ts.length||ns.eraseDups.length != ns.length)=true then some none
   else if vs.all (foldedForSure 8)=true then some none
   else if vs.all (constantsAlone 8)=true then none
   else some (some ns)
noncomputable def Wd (names:List (PySem.Str×NameKind)) (ts:List Expr) (v:Expr):Option (Option (List PySem.Str)):=match k90 v with
 | some vs=>K1E names ts vs
 | none=>some none
theorem blk {env:Env} (hf:env.scope.kind=.function):env.blockKind=.function:=by
 unfold Env.blockKind;refine er hf ?_;rfl
theorem yS {c:Bool} {α β:Type} {f:α→β} {x r:α} {E:Option α} {T:β} (e:(if c=true then some x else E)=some r) (k:E=some r→T=f r):(if c=true then f x else T)=f r:=by
 cases c with
 | true=>exact congrArg f (Option.some.inj e)
 | false=>exact k e
theorem k6E {c:Bool} {α β:Type} {f:α→β} {x r:α} {u:β} (e:(if c=true then none else some x)=some r):(if c=true then u else f x)=f r:=by
 cases c with
 | true=>injection e
 | false=>exact congrArg f (Option.some.inj e)
theorem k3k {names:List (PySem.Str×NameKind)} {ts:List Expr} {v:Expr} {env:Env} {k:Nat} {p:Pos} {r:Option (List PySem.Str)} (hk:∀ x,env.kindOf x=names.lookup x) (hf:env.scope.kind=.function) (e:Wd names ts v=some r) :
  swappedStores [.Tuple ts k p] v env=pure r:=by
 cases v with
 | Tuple vs =>
  delta swappedStores
  refine er (show env.kindOf=fun x=>names.lookup x from funext hk) ?_;refine er (blk hf) ?_
  show (if (_||(ScopeKind.function != ScopeKind.function))=true then _ else _)=_
  refine er (show (ScopeKind.function != ScopeKind.function)=false from rfl) ?_;refine er (Bool.or_false _) ?_
  exact yS (f:=pure) e fun e=>yS (f:=pure) e fun e=>yS (f:=pure) e fun e=>yS (f:=pure) e fun e=>k6E (f:=pure) e
 | Constant c=>cases c <;> (obtain rfl:=Option.some.inj e;rfl)
 | _=>obtain rfl:=Option.some.inj e;rfl
section
variable {prog:Program} {w:World} {b0:Heap} {os0:OsState} {call:jH} {init:Addr→Option Addr} {n:Nat} {Γ:Ctx} {env:Env} {ρ ρ':Loc} {σ σ' σ₀ σ₁ σ₂:Sto} {s s' s₀ s₁ s₂:Shared} {A:Around} {l:List Env} {h h':Heap}
variable (prog w b0 os0 call init n) in
noncomputable def SX (Γ:Ctx) (is:IS) (st:Stmt):Prop:=∀ {env ρ σ s A l Q X},Wu b0 env→At prog w b0 os0 n Γ env ρ σ s A (env::l)→ex call init is ρ σ Q X→wpAny (model prog w) A (exec st env) (PS prog w b0 os0 n Γ env A l σ s Q) (PXS prog w b0 os0 n Γ env A l σ s X) s
variable (prog w b0 os0 call init n) in
noncomputable def SXs (Γ:Ctx) (is:List IS) (sts:List Stmt):Prop:=∀ {env ρ σ s A l Q X},Wu b0 env→At prog w b0 os0 n Γ env ρ σ s A (env::l)→exs call init is ρ σ Q X→wpAny (model prog w) A (execs sts env) (PS prog w b0 os0 n Γ env A l σ s Q) (PXS prog w b0 os0 n Γ env A l σ s X) s
theorem k0f {e:Expr} {ie:IE} (hE:SE prog w b0 os0 call init n Γ ie e) (F:Wu b0 env) (a:At prog w b0 os0 n Γ env ρ σ s A (env::l)) {Q:QV} {X:QXS} {R:Value→Shared→Prop} (q:ev call init ie ρ σ Q (X ρ))
  (k:∀ x σ₁ v s₁,Kc prog w b0 os0 env l σ s σ₁ s₁→At prog w b0 os0 n Γ env ρ σ₁ s₁ A (env::l)→VR s₁.heap x v→Q x σ₁→R v s₁) :
  wpAny (model prog w) A (eval e env) R (PXS prog w b0 os0 n Γ env A l σ s X) s :=
 wpAny_mono (hE a q) (fun v s₁ p=>by refine x22 p ?_;clear p;intro x σ₁ S r q;exact k x σ₁ v s₁ (.ofStep F S) (a.step S) r q) fun z9 z9 p=>PXS.ofPX F a p
theorem in_b {e:Expr} {ie:IE} (hE:SB prog w b0 os0 call init n Γ ie e) (F:Wu b0 env) (a:At prog w b0 os0 n Γ env ρ σ s A (env::l)) {Q:Bool→Sto→Prop} {X:QXS} {R:Bool→Shared→Prop} (q:evB call init ie ρ σ Q (X ρ))
  (k:∀ b σ₁ s₁,Kc prog w b0 os0 env l σ s σ₁ s₁→At prog w b0 os0 n Γ env ρ σ₁ s₁ A (env::l)→Q b σ₁→R b s₁) :
  wpAny (model prog w) A (isTrue e env (eval e env)) R (PXS prog w b0 os0 n Γ env A l σ s X) s :=
 wpAny_mono (hE a q) (fun v s₁ p=>by refine x11 p ?_;clear p;intro σ₁ S q;exact k v σ₁ s₁ (.ofStep F S) (a.step S) q) fun z9 z9 p=>PXS.ofPX F a p
theorem Wv {α:Type} {t:Sem α} {R:α→Shared→Prop} {X:QXS} (S:Kc prog w b0 os0 env l σ s σ' s') (p:wpAny (model prog w) A t R (PXS prog w b0 os0 n Γ env A l σ' s' X) s') :
  wpAny (model prog w) A t R (PXS prog w b0 os0 n Γ env A l σ s X) s':=wpAny_mono p (fun z9 z9 q=>q) fun z9 z9 q=>q.back S
theorem k0d {t:Sem Flow} {Q:QS} {X:QXS} (S:Kc prog w b0 os0 env l σ s σ' s') (p:wpAny (model prog w) A t (PS prog w b0 os0 n Γ env A l σ' s' Q) (PXS prog w b0 os0 n Γ env A l σ' s' X) s') :
  wpAny (model prog w) A t (PS prog w b0 os0 n Γ env A l σ s Q) (PXS prog w b0 os0 n Γ env A l σ s X) s':=wpAny_mono p (fun z9 z9 q=>q.back S) fun z9 z9 q=>q.back S
theorem K1T {env:Env} (hf:env.scope.kind=.function):interactive env=false:=by
 unfold interactive;refine er hf ?_;first | rfl | simp
theorem k9l {ie:IE} {e:Expr} {p:Pos} (hc:jW e=true) (hE:SE prog w b0 os0 call init n Γ ie e):SX prog w b0 os0 call init n Γ (.expr ie) (.Expr e p):=by
 intro env ρ σ s A l Q X F a q
 exact wpAny_Expr_any (k0f hE F a q fun x σ₁ v s₁ S a₁ r q=>PS.next S a₁ q) (K1T a.kd) (Wr hc)
theorem K02 {ie:IE} {e:Expr} {p:Pos} (hE:SE prog w b0 os0 call init n Γ ie e):SX prog w b0 os0 call init n Γ (.ret ie) (.Return (some e) p):=by
 intro env ρ σ s A l Q X F a q
 exact wpAny_Return_some (k0f hE F a q fun x σ₁ v s₁ S a₁ r q=>PS.ret S a₁ r q)
theorem k9x {p:Pos}:SX prog w b0 os0 call init n Γ (.ret .cnone) (.Return none p):=by
 intro env ρ σ s A l Q X F a q
 exact wpAny_Return_none (PS.ret (.refl a.inv) a vrN q)
theorem k8L {p:Pos}:SX prog w b0 os0 call init n Γ .pass (.Pass p):=by
 intro env ρ σ s A l Q X F a q
 exact wpAny_Pass (PS.next (.refl a.inv) a q)
theorem k76:SXs prog w b0 os0 call init n Γ [] []:=by
 intro env ρ σ s A l Q X F a q
 exact wpAny_execs_nil (PS.next (.refl a.inv) a q)
theorem k5I {is:IS} {st:Stmt} {iss:List IS} {sts:List Stmt} (h1:SX prog w b0 os0 call init n Γ is st) (h2:SXs prog w b0 os0 call init n Γ iss sts):SXs prog w b0 os0 call init n Γ (is::iss) (st::sts):=by
 intro env ρ σ s A l Q X F a q
 refine wpAny_execs_cons (wpAny_mono (h1 F a q) (fun f s₁ p=>?_) fun z9 z9 p=>p)
 refine x33 p fun o ρ₁ σ₁ S a₁ fr q₁=>?_
 cases o with
 | none=>refine er (show f=.next from fr) ?_;exact k0d S (h2 F a₁ q₁)
 | some v=>exact x11 fr fun u e r=>by refine er e ?_;exact PS.ret S a₁ r q₁
theorem k9R {ie:IE} {e:Expr} {t f:List IS} {ts fs:List Stmt} {p:Pos} (hE:SB prog w b0 os0 call init n Γ ie e) (h1:SXs prog w b0 os0 call init n Γ t ts) (h2:SXs prog w b0 os0 call init n Γ f fs):SX prog w b0 os0 call init n Γ (.ite ie t f) (.If e ts fs p):=by
 intro env ρ σ s A l Q X F a q
 refine wpAny_If (in_b hE F a q fun b σ₁ s₁ S a₁ q=>?_)
 cases b with
 | true=>exact k0d S (h1 F a₁ q)
 | false=>exact k0d S (h2 F a₁ q)
theorem K0V {ie:IE} {e:Expr} {x:PySem.Str} {i:Nat} {p p':Pos} (nd:Γ.vars.Nodup) (hc:jW e=true) (hx:Γ.vars[i]?=some x) (hE:SE prog w b0 os0 call init n Γ ie e):SX prog w b0 os0 call init n Γ (.asg i ie) (.Assign [.Name x p'] e p):=by
 intro env ρ σ s A l Q X F a q
 refine wpAny_Assign_Name (k0f hE F a q fun v σ₁ u s₁ S a₁ r q=>?_) (Wr hc)
 exact Jx F a₁ nd hx r fun s' S' a'=>PS.next (S.trans S') a' q
noncomputable def Tg (prog:Program) (w:World) (env:Env) (Γ:Ctx):List Nat→List (Value→Sem Unit)→Prop
 | [],fs=>fs=[]
 | i::is,fs=>∃ f r x,fs=f::r∧Γ.vars[i]?=some x∧(∀ {A':Around} {u:Value} {Q:Unit→Shared→Prop} {E:Value→Shared→Prop} {s:Shared},wpAny (model prog w) A' (storeName env x u) Q E s→wpAny (model prog w) A' (f u) Q E s)∧Tg prog w env Γ is r
theorem wL (F:Wu b0 env) (nd:Γ.vars.Nodup) {A':Around} {Q:Unit→Shared→Prop} {E:Value→Shared→Prop} {is:List Nat}:∀ {fs:List (Value→Sem Unit)} {vs:List V} {us:List Value} {ρ:Loc} {s:Shared},Tg prog w env Γ is fs→At prog w b0 os0 n Γ env ρ σ s A (env::l)→VRs s.heap vs us→vs.length=is.length →
  (∀ s',Kc prog w b0 os0 env l σ s σ s'→At prog w b0 os0 n Γ env (ρ.puts is vs) σ s' A (env::l)→Q () s')→wpAny (model prog w) A' (assignInOrder fs us) Q E s:=by
 induction is with
 | nil =>
  intro fs vs us ρ s T a r hl k
  obtain rfl:fs=[]:=T
  obtain rfl:=List.eq_nil_of_length_eq_zero hl
  obtain rfl:us=[]:=r
  exact wpAny_pure (k s (.refl a.inv) a)
 | cons i is ih =>
  intro fs vs us ρ s T a r hl k
  refine x33 T fun f fr x ef hx hf T=>?_
  cases vs with
  | nil=>injection hl
  | cons v vs =>
   refine x22 r.cons_eq fun u us' eu r1 r2=>?_
   refine er ef (er eu ?_)
   show wpAny _ _ (do holding us' (f u);assignInOrder fr us') Q E s
   exact wpAny_bind (wpAny_holding (hf (Jx F a nd hx r1 fun s' S' a'=>ih T a' (r2.keep (S'.tupKeep F a)) (Nat.succ.inj hl) fun s'' S'' a''=>k s'' (S'.trans S'') a'')))
theorem k9d {env:Env} {is:List Nat}:∀ {ts:List Expr},k9j Γ is ts=true→(assignEach ts env).length=is.length∧(assignEach ts env).findIdx? (·.1)=none∧Tg prog w env Γ is ((assignEach ts env).map (·.2)):=by
 induction is with
 | nil=>intro ts h;refine er (KN h) ?_;exact ⟨rfl,rfl,rfl⟩
 | cons i is ih =>
  intro ts h
  cases ts with
  | nil=>injection h
  | cons t ts =>
   refine hs h fun y ey h=>hs h fun x hx h=>b2 h fun h1 h2=>(jE hx).elim fun p e=>x02 (ih h2) fun i1 i2 i3=>?_
   refine er (Option.some.inj ey) (er e ?_)
   exact ⟨congrArg (·+1) i1,by refine er (show assignEach (.Name x p::ts) env=(false,assign (.Name x p) env)::assignEach ts env from rfl) (er (List.findIdx?_cons) (er (show (assignEach ts env).findIdx? (fun x=>x.1)=none from i2) ?_));rfl,
    _,_,x,rfl,eq_of_beq h1,fun {A' u Q E s} z=>wpAny_assign_Name z,i3⟩
theorem Yk (F:Wu b0 env) (nd:Γ.vars.Nodup) (hA:A.handled=none) (a:At prog w b0 os0 n Γ env ρ σ s A (env::l)) {is:List Nat} {ts:List Expr} {k:Nat} {p:Pos} {vs:List V} {u:Value} {Q:Unit→Shared→Prop} {E:Value→Shared→Prop} (ht:k9j Γ is ts=true) (r:VR s.heap (.tup vs) u) (hl:vs.length=is.length)
  (kk:∀ s',Kc prog w b0 os0 env l σ s σ s'→At prog w b0 os0 n Γ env (ρ.puts is vs) σ s' A (env::l)→Q () s'):wpAny (model prog w) A (assign (.Tuple ts k p) env u) Q E s:=by
 refine x32 r fun c m us ec h1 r1=>x02 (k9d (prog:=prog) (w:=w) (env:=env) ht) fun t2 t3 t4=>?_
 refine er ec ?_
 refine wpAny_assign_Tuple hA (KL h1) (by exact er t2 (er List.size_toArray (er r1.length (er hl rfl)))) t3 fun h' he=>?_
 have kp:∀ b o,s.heap.get? b=some o→h'.get? b=some o:=fun b o e=>he b o (Nat.ne_of_lt (Heap.lt_size e)) e
 have S:kQ prog w b0 os0 (env::l) σ s σ { s with heap:=h' }:=kQ.grow a.inv kp
 exact wL F nd t4 (a.step S) (r1.keep (jM kp)) hl fun s' S' a'=>kk s' ((Kc.ofStep F S).trans S') a'
theorem Loc.put_comm {i j:Nat} {v u:V} (h:i≠j):(ρ.put i v).put j u=(ρ.put j u).put i v:=List.set_comm _ _ h
theorem k7K {α:Type}:∀ {l:List α},l.length=2→∃ a b,l=[a,b]
 | [a,b],_=>⟨a,b,rfl⟩
theorem k2m {α:Type}:∀ {l:List α},l.length=3→∃ a b c,l=[a,b,c]
 | [a,b,c],_=>⟨a,b,c,rfl⟩
theorem k50 {is:List Nat} {vs:List V} (nd:is.Nodup) (h:is.length=2∨is.length=3) (hl:vs.length=is.length):ρ.puts is.reverse vs.reverse=ρ.puts is vs:=by
 rcases h with h | h
 ·obtain ⟨i,j,rfl⟩:=k7K h
  obtain ⟨v,u,rfl⟩:=k7K hl
  exact Loc.put_comm fun e=>(List.nodup_cons.1 nd).1 (e▸List.mem_cons_self)
 ·obtain ⟨i,j,k,rfl⟩:=k2m h
  obtain ⟨v,u,x,rfl⟩:=k2m hl
  obtain ⟨n1,n2⟩:=List.nodup_cons.1 nd
  show ((ρ.put k x).put j u).put i v=((ρ.put i v).put j u).put k x
  exact er (Loc.put_comm (i:=k) (j:=j) fun e=>(List.nodup_cons.1 n2).1 (e▸List.mem_cons_self)) (er (Loc.put_comm (i:=k) (j:=i) fun e=>n1 (e▸List.mem_cons_of_mem _ List.mem_cons_self)) (er (Loc.put_comm (i:=j) (j:=i) fun e=>n1 (e▸List.mem_cons_self)) rfl))
theorem k1m {env:Env}:∀ {is:List Nat} {ns:List PySem.Str},is.map (Γ.vars[·]?)=ns.map some→Tg prog w env Γ is (ns.map fun m=>bindName env m)
 | [],[],_=>rfl
 | [],_::_,h=>by injection h
 | _::_,[],h=>by injection h
 | i::is,x::ns,h=>⟨_,_,x,rfl,(List.cons.inj h).1,fun {A' u Q E s} z=>wpAny_bindName z,k1m (List.cons.inj h).2⟩
theorem k0S {v:V} {P:List V→Prop} (q:match v with | .tup vs=>P vs | _=>False):∃ vs,v=.tup vs∧P vs:=by
 cases v <;> first | exact ⟨_,rfl,q⟩ | exact q.elim
theorem k8Q {ie:IE} {e:Expr} {is:List Nat} {ts:List Expr} {k:Nat} {p p':Pos} {r:Option (List PySem.Str)} (nd:Γ.vars.Nodup) (hc:jW e=true) (ht:k9j Γ is ts=true) (hn:is.Nodup) (hs:Wd Γ.names ts e=some r)
  (hr:∀ ns,r=some ns→is.map (Γ.vars[·]?)=ns.map some∧(is.length=2∨is.length=3)) (hE:SE prog w b0 os0 call init n Γ ie e):SX prog w b0 os0 call init n Γ (.asgT is ie) (.Assign [.Tuple ts k p'] e p):=by
 intro env ρ σ s A l Q X F a q
 have h0:swapsWithSole [.Tuple ts k p'] e p.line env=pure false:=(show swapsWith e (some (.Tuple ts k p')) p.line env=pure false from Wr hc)
 have h1:=k3k (k:=k) (p:=p') (fun x=>a.kind (x:=x)) a.kd hs
 cases r with
 | none =>
  refine Assign_Tuple (k0f hE F a q fun v σ₁ u s₁ S a₁ r q=>?_) h0 h1
  refine x11 (k0S q) fun vs e q=>?_
  replace q:=K1q q
  rw[e] at r
  exact Yk F nd a.room.1 a₁ ht r q.1 fun s' S' a'=>PS.next (S.trans S') a' q.2
 | some ns =>
  obtain ⟨g1,g2⟩:=hr ns rfl
  refine Assign_Tuple_swapped (k0f hE F a q fun v σ₁ u s₁ S a₁ r q=>?_) h0 h1
  refine x11 (k0S q) fun vs e q=>?_
  replace q:=K1q q
  rw[e] at r
  refine x32 r fun c m us ec h2 r1=>?_
  refine er ec (er (show ns.length=us.toArray.size by refine er List.size_toArray ?_;refine er r1.length ?_;refine er q.1 ?_;refine er (Eq.symm (List.length_map (as:=is) (f:=fun i=>Γ.vars[i]?))) ?_;refine er g1 ?_;refine er (List.length_map _) ?_;rfl) ?_)
  refine wpAny_unpackItems_tuple a.room.1 (KL h2) fun h' he=>?_
  have kp:∀ b o,s₁.heap.get? b=some o→h'.get? b=some o:=fun b o e=>he b o (Nat.ne_of_lt (Heap.lt_size e)) e
  have S1:kQ prog w b0 os0 (env::l) σ₁ s₁ σ₁ { s₁ with heap:=h' }:=kQ.grow a₁.inv kp
  have g3:is.reverse.map (Γ.vars[·]?)=ns.reverse.map some:=by exact er List.map_reverse (er List.map_reverse (er g1 rfl))
  refine wL F nd (k1m g3) (a₁.step S1) (r1.reverse.keep (jM kp)) (by exact er List.length_reverse (er List.length_reverse (er q.1 rfl))) fun s' S' a'=>?_
  rw[k50 hn g2 q.1] at a'
  exact PS.next ((S.trans (.ofStep F S1)).trans S') a' q.2
end
section
variable {prog:Program} {w:World} {b0:Heap} {os0:OsState} {call:jH} {init:Addr→Option Addr} {n:Nat} {Γ:Ctx} {env:Env} {ρ ρ':Loc} {σ σ' σ₀ σ₁ σ₂:Sto} {s s' s₀ s₁ s₂:Shared} {A:Around} {l:List Env} {h h':Heap}
theorem Yo (I:Inv prog w b0 os0 l σ s) {x y:V} {u v:Value} {Q:QV} {E:Value→Shared→Prop} (rx:VR s.heap x u) (ry:VR s.heap y v) (q:k0s .sub x y σ Q) :
  wpAny (model prog w) A (inplaceOp .Sub u v) (PV prog w b0 os0 l σ s Q) E s:=by
 cases x with
 | int a =>
  refine su q fun b e q=>?_
  obtain ⟨t,rfl⟩:=rx
  obtain ⟨t',rfl⟩:=k0N ry e
  exact PyProof.Rows.isub_int (PV.same I vrI q)
 | str=>exact su q fun z9 z9 q=>False.elim q
 | bytes=>exact su q fun z9 z9 q=>False.elim q
 | tup=>exact su q fun z9 z9 q=>False.elim q
 | ref=>exact su q fun z9 z9 q=>su q fun z9 z9 q=>su q fun z9 z9 q=>False.elim q
 | _=>exact q.elim
variable (B:Ws Γ.K b0)
include B
theorem k8t {C:Addr} {nm:List Nat} {io ie:IE} {o e:Expr} {x:PySem.Str} {p p':Pos} (hx:x=ke nm) (hk:k3N Γ.K C (ke nm)=true) (hc:jW e=true) (hO:SE prog w b0 os0 call init n Γ io o) (hE:SE prog w b0 os0 call init n Γ ie e) :
  SX prog w b0 os0 call init n Γ (.setA C nm io ie) (.Assign [.Attribute o x p'] e p):=by
 intro env ρ σ s A l Q X F a q
 subst hx
 refine wpAny_Assign_stores (k0f hE F a q fun v σ₁ u s₁ S a₁ r q=>?_) (show swapsWith e (some (.Attribute o (ke nm) p')) p.line env=pure false from Wr hc) (by cases e <;> rfl)
 show wpAny _ _ (assign (.Attribute o (ke nm) p') env u) _ _ _
 rw[arm_assign_Attribute]
 refine wpAny_bind (wpAny_holding (Wv S (k0f hO F a₁ q fun y σ₂ v₂ s₂ S₂ a₂ r₂ q₂=>?_)))
 refine wpAny_bind (wpAny_standAt (wpAny_bind (wpAny_holding ?_)))
 refine wpAny_mono (WZ B.X a₂.inv hk r₂ (r.keep (S₂.tupKeep F a₁)) q₂) (fun z9 s₃ z=>?_) fun z9 z9 z=>z
 refine x11 z ?_;clear z;intro σ₃ S₃ q₃
 exact wpAny_release (PS.next ((S.trans S₂).trans (.ofStep F S₃)) (a₂.step S₃) q₃)
theorem k8b {io ii ie:IE} {o i e:Expr} {p p':Pos} (hc:jW e=true) (hO:SE prog w b0 os0 call init n Γ io o) (hI:SE prog w b0 os0 call init n Γ ii i) (hE:SE prog w b0 os0 call init n Γ ie e) :
  SX prog w b0 os0 call init n Γ (.setI io ii ie) (.Assign [.Subscript o i p'] e p):=by
 intro env ρ σ s A l Q X F a q
 refine wpAny_Assign_Subscript (k0f hE F a q fun v σ₁ u s₁ S a₁ r q=>?_) (Wr hc)
 refine Wv S (k0f hO F a₁ q fun y σ₂ v₂ s₂ S₂ a₂ r₂ q₂=>?_)
 refine Wv (S.trans S₂) (k0f hI F a₂ q₂ fun z σ₃ v₃ s₃ S₃ a₃ r₃ q₃=>?_)
 have K2:=S₂.tupKeep F a₁
 have K3:=S₃.tupKeep F a₂
 refine wpAny_mono (ym a₃.inv (r₂.keep K3) r₃ ((r.keep K2).keep K3) q₃) (fun z9 s₄ z=>?_) fun z9 z9 z=>z
 refine x11 z ?_;clear z;intro σ₄ S₄ q₄
 exact PS.next (((S.trans S₂).trans S₃).trans (.ofStep F S₄)) (a₃.step S₄) q₄
theorem k8h {C:Addr} {nm:List Nat} {io ie:IE} {o e:Expr} {x:PySem.Str} {p p':Pos} (hx:x=ke nm) (hg:yb Γ.K C (ke nm)=true) (hk:k3N Γ.K C (ke nm)=true) (hO:SE prog w b0 os0 call init n Γ io o) (hE:SE prog w b0 os0 call init n Γ ie e) :
  SX prog w b0 os0 call init n Γ (.augA C nm .sub io ie) (.AugAssign (.Attribute o x p') .Sub e p):=by
 intro env ρ σ s A l Q X F a q
 subst hx
 refine wpAny_AugAssign_AttributeAny (k0f hO F a q fun y σ₁ u s₁ S a₁ r q=>?_)
 refine wpAny_mono (WU B.X a₁.inv hg r q) (fun v₂ s₂ z=>?_) fun z9 z9 z=>z
 refine x22 z ?_;clear z;intro x₂ σ₂ S₂ r₂ q₂
 have a₂:=a₁.step S₂
 have SS2:=S.trans (Kc.ofStep F S₂)
 refine Wv SS2 (k0f hE F a₂ q₂ fun x₃ σ₃ v₃ s₃ S₃ a₃ r₃ q₃=>?_)
 have K2:=S₂.tupKeep a₁.inv
 have K3:=S₃.tupKeep F a₂
 refine wpAny_mono (Yo a₃.inv (r₂.keep K3) r₃ q₃) (fun v₄ s₄ z=>?_) fun z9 z9 z=>z
 refine x22 z ?_;clear z;intro x₄ σ₄ S₄ r₄ q₄
 have a₄:=a₃.step S₄
 refine wpAny_mono (WZ B.X a₄.inv hk (((r.keep K2).keep K3).keep (S₄.tupKeep a₃.inv)) r₄ q₄) (fun z9 s₅ z=>?_) fun z9 z9 z=>z
 obtain ⟨σ₅,S₅,q₅⟩:=z
 exact PS.next (((SS2.trans S₃).trans (.ofStep F S₄)).trans (.ofStep F S₅)) (a₄.step S₅) q₅
theorem k8T {io ii ie:IE} {o i e:Expr} {p p':Pos} (hn:yQ i=true) (hO:SE prog w b0 os0 call init n Γ io o) (hI:SE prog w b0 os0 call init n Γ ii i) (hE:SE prog w b0 os0 call init n Γ ie e) :
  SX prog w b0 os0 call init n Γ (.augI .sub io ii ie) (.AugAssign (.Subscript o i p') .Sub e p):=by
 intro env ρ σ s A l Q X F a q
 refine wpAny_AugAssign_Subscript_any (k0f hO F a q fun y σ₁ u s₁ S a₁ r q=>?_) (fun z9 z9 z9=>by cases i <;> first | rfl | injection hn)
 refine Wv S (k0f hI F a₁ q fun y' σ₂ v₂ s₂ S₂ a₂ r₂ q₂=>?_)
 refine x22 (YM (A:=A) (E:=PXS prog w b0 os0 n Γ env A l σ s X) a₂.inv B.H (r.keep (S₂.tupKeep F a₁)) r₂ q₂) fun z9 z9 z9 z9 hget=>?_
 refine wpAny_mono hget (fun v₃ s₃ z=>?_) fun z9 z9 z=>z
 refine x22 z ?_;clear z;intro x₃ σ₃ S₃ r₃ q₃
 have a₃:=a₂.step S₃
 have SS3:=(S.trans S₂).trans (Kc.ofStep F S₃)
 refine Wv SS3 (k0f hE F a₃ q₃ fun x₄ σ₄ v₄ s₄ S₄ a₄ r₄ q₄=>?_)
 have K2:=S₂.tupKeep F a₁
 have K3:=S₃.tupKeep a₂.inv
 have K4:=S₄.tupKeep F a₃
 refine wpAny_mono (Yo a₄.inv (r₃.keep K4) r₄ q₄) (fun v₅ s₅ z=>?_) fun z9 z9 z=>z
 refine bc fun zg=>?_
 obtain ⟨x₅,σ₅,S₅,r₅,q₅⟩:=z
 have a₅:=a₄.step S₅
 have K5:=S₅.tupKeep a₄.inv
 refine zg ?_;clear zg
 refine wpAny_mono (ym a₅.inv ((((r.keep K2).keep K3).keep K4).keep K5) (((r₂.keep K3).keep K4).keep K5) r₅ q₅) (fun z9 s₆ z=>?_) fun z9 z9 z=>z
 refine bc fun zg=>?_
 obtain ⟨σ₆,S₆,q₆⟩:=z
 refine zg ?_;clear zg
 exact PS.next (((SS3.trans S₄).trans (.ofStep F S₅)).trans (.ofStep F S₆)) (a₅.step S₆) q₆
omit B
theorem At.poke (F:Wu b0 env) (a:At prog w b0 os0 n Γ env ρ σ s A (env::l)) (T:Kc prog w b0 os0 env l σ₀ s₀ σ s) {C:Addr} {tk:Tok} (n0:s₀.heap.get? C=none) (nb:b0.get? C=none) (nO:¬ k08 env C) (nI:¬ σ.has C) (fI:C∉frs (env::l)) (ns:∀ o,s.heap.get? C=some o→¬ JS o)
  (k:∀ b o,b≠C→s.heap.get? b=some o→h'.get? b=some o):Kc prog w b0 os0 env l σ₀ s₀ σ { s with heap:=h',toks:=tk }∧At prog w b0 os0 n Γ env ρ σ { s with heap:=h',toks:=tk } A (env::l):=by
 refine bc fun zg=>?_
 have K:=jl ns k
 have I:=a.inv.poke (tk:=tk) nb nI fI ns k
 refine x11 a.env_.locs fun m hn hm=>?_
 refine x11 T.pre fun pre e x=>?_
 refine zg ?_;clear zg
 refine ⟨⟨I,⟨pre,e,fun b o hb nq=>?_⟩,T.dom,fun b e=>?_⟩,⟨a.names,⟨a.env_.kind,a.env_.glob,a.env_.blt,⟨m,hn.at' fun o e=>k _ o (fun z=>nO (.inl z.symm)) e,fun i x av e1 e2 e3=>?_⟩,fun i x av e1 e2 e3=>?_,a.env_.kinds,a.env_.all,a.env_.offL,fun x c e=>?_⟩,I,a.room,a.tab⟩⟩
 ·have hbC:b≠C:=fun z=>by rw[z,n0] at hb;injection hb
  refine bc fun zg=>?_
  obtain ⟨x1,sl,x2⟩:=x b o hb nq
  refine zg ?_;clear zg
  exact ⟨fun q=>k _ _ hbC (x1 q),sl,k _ _ hbC x2⟩
 ·by_cases z:b=C
  ·subst z;exact n0
  ·refine T.back b ?_
   cases q:s.heap.get? b with
   | none=>rfl
   | some o=>have:=k b o z q;simp only at e;rw[e] at this;injection this
 ·refine x11 (hm i x av e1 e2 e3) fun v h1 h2=>?_
  exact ⟨v,h1,h2.keep K⟩
 ·refine bc fun zg=>?_
  refine x22 (a.env_.cells i x av e1 e2 e3) fun c v h1 zn3 h3=>?_;obtain ⟨oc,h2,h2'⟩:=zn3
  refine zg ?_;clear zg
  exact ⟨c,v,h1,⟨oc,k _ _ (fun z=>nO (.inr ⟨x,z▸h1⟩)) h2,h2'⟩,h3.keep K⟩
 ·refine bc fun zg=>?_
  obtain ⟨h1,zz0⟩:=a.env_.offC x c e;refine x21 zz0 fun o v h2 h3=>?_
  refine zg ?_;clear zg
  exact ⟨h1,o,v,k _ _ (fun z=>nO (.inr ⟨x,z▸e⟩)) h2,h3⟩
theorem Kc.free (S:Kc prog w b0 os0 env l σ s σ' s') {a:Addr} {o:Obj} (e:s.heap.get? a=some o) (nI:¬ σ.has a) (nO:¬ k08 env a) (fI:a∉frs l):s'.heap.get? a=some o∧¬ σ'.has a :=
 ⟨(S.ext a o e fun z=>z.elim nI nO).1 fI,S.dom.not e nI⟩
theorem k5c (F:Wu b0 env) (a:At prog w b0 os0 n Γ env ρ σ s A (env::l)) {C:Addr} (e:s.heap.get? C=none):¬ k08 env C∧C∉frs (env::l)∧C∉frs l∧b0.get? C=none:=by
 refine ⟨fun z=>?_,fun z=>?_,fun z=>?_,?_⟩
 ·refine x02 (a.own_not F z) fun z9 z9 zz0=>?_;refine x11 zz0 fun ob h z9=>?_
  rw[e] at h;injection h
 ·refine x31 (a.inv.frD C z) fun o z9 z9 h z9=>?_
  rw[e] at h;injection h
 ·refine x31 (a.inv.frD C (by refine er (qI F) ?_;exact List.mem_cons_of_mem _ z)) fun o z9 z9 h z9=>?_
  rw[e] at h;injection h
 ·cases z:b0.get? C with
  | none=>rfl
  | some o=>have:=a.inv.stay C o z;rw[e] at this;injection this
theorem k8s (B:Ws Γ.K b0) (nd:Γ.vars.Nodup) {i:Nat} {y:PySem.Str} {caps:List Nat} {it:IT} {cond:Option IE} {elt:IE} {x:PySem.Str} {xs:List PySem.Str} {px py pos spos:Pos} {iter el:Expr} {ifs:List Expr} {sc:Scope} {k:Nat}
  (hy:Γ.vars[i]?=some y) (hyl:Γ.names.lookup y=some .local) (hline:(py.line==pos.line)=true) (hno:(sc.names.any fun (m,k)=>m==y&&(k==.local||k==.cell))=false)
  (c1:wt Γ.names x sc=true) (hcaps:qe Γ caps=some xs) (hcell:∀ y∈xs,(jr Γ.names sc).lookup y=some .cell) (hs:ckI k Γ it iter=true)
  (hI:SI prog w b0 os0 call init n Γ it iter) (hC:SC prog w b0 os0 call init n (jZ Γ x xs sc) cond ifs) (hE:SE prog w b0 os0 call init n (jZ Γ x xs sc) elt el) :
  SX prog w b0 os0 call init n Γ (.asg i (.comp caps it cond elt)) (.Assign [.Name y py] (.ListComp el [⟨.Name x px,iter,ifs,0⟩] sc pos) spos):=by
 intro env ρ σ s A l Q X F a q
 have hsw:swapsWith (.ListComp el [⟨.Name x px,iter,ifs,0⟩] sc pos) (some (.Name y py)) spos.line env=pure true:=by
  have e1:(env.blockKind==ScopeKind.function)=true:=by refine er (blk a.kd) ?_;rfl
  have e2:(env.kindOf y==some NameKind.local)=true:=by refine er (a.kind (x:=y)) (er hyl ?_);rfl
  have e3:(Expr.pos (.ListComp el [⟨.Name x px,iter,ifs,0⟩] sc pos))=pos:=rfl
  unfold swapsWith
  simp only[e1,e2,e3,hline,hno,Bool.true_and,Bool.not_false]
 refine er (exec_Assign_Name_used _ _ _ _ hsw) ?_
 refine wpAny_bind (wpAny_standAt (wpAny_bind ?_))
 show wpAny _ A (do let _ ← comprehension (.ListComp el [⟨.Name x px,iter,ifs,0⟩] sc pos) sc env _ (newList []) false (eval iter env) (some (assign (.Name y py) env))) _ _ s
 refine wpAny_bind (wpAny_mono (k1F (R:=fun z9 s'=>PS prog w b0 os0 n Γ env A l σ s Q .next s') B a c1 hcaps hcell (fun v=>wF hs v env) hI hC hE (use:=some (assign (.Name y py) env)) (fun {C D σ' s' m'} T q hn hC0 hC1=>?_) q) (fun z9 s' z=>wpAny_pure (wpAny_pure z)) fun z9 z9 z=>PXS.ofPX F a z)
 refine bc fun zg=>?_
 refine x03 (k5c F a hC0) fun o1 o2 o3 o4=>?_
 refine zg ?_;clear zg
 show wpAny _ A (assign (.Name y py) env (.ref D)) _ _ _
 have a':=a.step T
 have ST:=Kc.ofStep F T
 refine wpAny_assign_Name (Jx F a' nd hy (v:=.ref D) (by first | exact rfl | exact ⟨_,rfl⟩) fun s'' S'' a''=>?_)
 obtain ⟨oC,hoC⟩:∃ oC,s'.heap.get? C=some oC:=by refine x31 hn ?_;clear hn;intro o z9 z9 ho z9;exact ⟨o,ho⟩
 have fr:=S''.free hoC hC1 o1 o3
 have hn2:s''.heap.Ns C m':=hn.at' fun o e=>by rw[hoC] at e;injection e with e;subst e;exact fr.1
 refine ⟨m',hn2,fun h3 sb=>?_⟩
 have Z:=At.poke F a'' (ST.trans S'') (tk:=s''.toks) hC0 o4 o1 fr.2 o2 (JE hn2) fun b o nb e=>sb.extBut b o nb e
 exact PS.next Z.1 Z.2 q
theorem K1l {P:Sem Unit→Prop} {Ia:Addr} {f:Addr→Addr→Sem Unit} (v:Value) (h1:∀ a,P (f Ia a)) (h2:P (pure ())):P (letOwnedTupleGo.match_5 (fun z9=>Sem Unit) (.ref Ia,v) f fun z9=>pure ()):=by
 cases v with
 | ref a=>exact h1 a
 | _=>exact h2
theorem K1t {P:Sem Unit→Prop} {f:String→Array Value→Sem Unit} {d:Data} (c:Value) (h1:∀ n vs,c=.type n→P (f n vs)) (h2:P (pure ())):P (letOwnedTupleGo.match_1 (fun z9 z9=>Sem Unit) c d f fun z9 z9=>pure ()):=by
 cases c with
 | type n =>
  cases d with
  | fields vs=>exact h1 n vs rfl
  | _=>exact h2
 | _=>exact h2
noncomputable def OwT (prog:Program) (w:World) (A:Around) (t:Expr):Prop:=∀ {Ia:Addr} {v:Value} {o:Obj} {Q:Unit→Shared→Prop} {E:Value→Shared→Prop} {s:Shared},s.heap.get? Ia=some o→QIt o→Q () s→wpAny (model prog w) A (letOwnedTupleGo t (.ref Ia) v) Q E s
theorem K11 {ts:List Expr} {kk:Nat} {p:Pos}:OwT prog w A (.Tuple ts kk p):=by
 intro Ia v o Q E s e q h
 refine K1l (P:=fun x=>wpAny (model prog w) A x Q E s) v (fun a=>wpAny_bind (wpAny_load e ?_)) (wpAny_pure h)
 refine K1t (P:=fun x=>wpAny (model prog w) A x Q E s) o.cls (fun n vs ec=>?_) (wpAny_pure h)
 exact er (if_neg fun z=>Bool.noConfusion ((Bool.and_eq_true_iff.1 z).1.symm.trans (q.2 n ec))) (wpAny_pure h)
theorem k5L {target:Expr} {body:List Stmt} {Ia:Addr} {fp:List Addr} {n:Nat} {P:Nat→Value→Prop} {St:Nat→Heap→Prop} (W:Walks prog w A Ia fp [Ia] n P St) (ow:OwT prog w A target) (hns:∀ i h,St i h→∃ o',h.get? Ia=some o'∧QIt o') {R:Result→Shared→Prop} (J:Nat→Shared→Prop)
  (hJ:∀ {i s},J i s→i≤n∧St i s.heap) (done:∀ {s h2 tk2},J n s→(∀ b o,b≠Ia→s.heap.get? b=some o→h2.get? b=some o)→R (.ok .next) { s with heap:=h2,toks:=tk2 })
  (item:∀ {i s v h2 tk2} {E:Value→Shared→Prop},i<n→J i s→P i v→St (i+1) h2→(∀ b o,b≠Ia→s.heap.get? b=some o→h2.get? b=some o) →
   wpAny (model prog w) A (assign target env v) (fun z9 s₂=>wpAny (model prog w) A (execs body env) (fun f s₃=>(f=.next∧J (i+1) s₃)∨∃ v,f=.ret v∧R (.ok (.ret v)) s₃) E s₂) E { s with heap:=h2,toks:=tk2 })
  (h0:J 0 s):codeAny (model prog w) A (.forLoop target (.ref Ia) body [] env) R s:=by
 refine codeAny_forLoop_any (fun k s=>∃ i,k=n+1-i∧J i s) (fun k s hI=>x11 hI fun i ek j=>?_) (n+1) ⟨0,rfl,h0⟩
 have kk:∀ {b} {h2:Heap},b≠Ia→b∉[Ia]:=fun nb z=>nb (List.mem_singleton.1 z)
 by_cases hlt:i<n
 ·have nx:∀ {s},J (i+1) s→∃ m,m<k∧∃ i,m=n+1-i∧J i s:=fun j=>⟨n+1-(i+1),by omega,i+1,rfl,j⟩
  refine W.item i _ _ _ hlt (hJ j).2 fun v h2 tk2 hP hst k2=>x11 (hns _ _ hst) fun oo eo qo=>ow eo qo ?_
  refine wpAny_mono (item hlt j hP hst fun b o nb=>k2 b o (kk (h2:=h2) nb)) (fun z9 s₂ z=>wpAny_mono z (fun f s₃ z=>?_) fun z9 z9 z=>z) fun z9 z9 z=>z
  rcases z with z | z
  ·refine er z.1 ?_;exact nx z.2
  ·exact x11 z fun v e r=>by refine er e ?_;exact r
 ·obtain rfl:i=n:=Nat.le_antisymm (hJ j).1 (Nat.not_lt.1 hlt)
  exact W.done _ _ _ (hJ j).2 fun h2 tk2 k2=>wpAny_execs_nil (done j fun b o nb=>k2 b o (kk (h2:=h2) nb))
structure LGo (prog:Program) (w:World) (b0:Heap) (os0:OsState) (n:Nat) (Γ:Ctx) (env:Env) (A:Around) (l:List Env) (σ₁:Sto) (s₁:Shared) (src:Src) (Ia:Addr) (St:Nat→Heap→Prop) (i:Nat) (ρ:Loc) (σ:Sto) (s:Shared):Prop where
 T:Kc prog w b0 os0 env l σ₁ s₁ σ s
 a:At prog w b0 os0 n Γ env ρ σ s A (env::l)
 nI:¬ σ.has Ia
 st:(∀ g,src.guard=some g→s.heap.get? g=s₁.heap.get? g)→St i s.heap
theorem LGo.same {src:Src} {Ia:Addr} {St:Nat→Heap→Prop} {i:Nat} (F:Wu b0 env) (a₁:At prog w b0 os0 n Γ env ρ' σ₁ s₁ A (env::l)) {u:Value} (x:zD σ₁ s₁.heap src u) (G:LGo prog w b0 os0 n Γ env A l σ₁ s₁ src Ia St i ρ σ s) (st:jF src.guard σ₁ σ) :
  ∀ g,src.guard=some g→s.heap.get? g=s₁.heap.get? g:=by
 intro g e
 obtain ⟨hh,o,ho⟩:=qj a₁.inv x e
 rw[e] at st
 refine er ho ?_
 refine x11 G.T.pre fun pre e1 y=>?_
 refine x11 st ?_;clear st;intro pre' e2 ni
 have:pre=pre':=List.append_cancel_right (e1.symm.trans e2)
 subst this
 have fg:g∉frs (env::l):=a₁.inv.offF g hh
 exact (y g o ho fun z=>z.elim ni fun z=>(a₁.own_not F z).1 hh).1 fun m=>fg (by refine er (qI F) ?_;exact List.mem_cons_of_mem _ m)
theorem QK {g:Option Addr} {turn:V→Loc→Sto→QS→Prop} {xs:List V} {Q:QS} (q:KU g σ₀ turn xs ρ σ Q):jF g σ₀ σ:=by cases xs <;> exact q.1
theorem UE (F:Wu b0 env) (H:qY b0) (a₁:At prog w b0 os0 n Γ env ρ σ₁ s₁ A (env::l)) {src:Src} {u:Value} (hsrc:zD σ₁ s₁.heap src u) {turn:V→Loc→Sto→QS→Prop} {target:Expr} {body:List Stmt} {Q:QS} {E E':Value→Shared→Prop} (ow:OwT prog w A target)
  (hT:∀ {x u ρ σ s K},At prog w b0 os0 n Γ env ρ σ s A (env::l)→VR s.heap x u→turn x ρ σ K→wpAny (model prog w) A (assign target env u) (fun z9 s₂=>wpAny (model prog w) A (execs body env) (PS prog w b0 os0 n Γ env A l σ s K) (fun z9 z9=>False) s₂) (fun z9 z9=>False) s)
  (q:KU src.guard σ₁ turn src.items ρ σ₁ Q) :
  wpAny (model prog w) A (pyIter u) (fun it s₂=>codeAny (model prog w) A (.forLoop target it body [] env) (fun r s'=>match r with | .ok f=>PS prog w b0 os0 n Γ env A l σ₁ s₁ Q f s' | .error e=>cameBackBy (model prog w) A env E e s') s₂) E' s₁:=by
 refine Zm a₁.room.1 a₁.inv H hsrc fun o fp P St hoI W st0 hfp hit hns=>?_
 have nIa:=Kx s₁.heap
 generalize s₁.heap.objs.size=Ia at *
 refine x03 (k5c F a₁ nIa) fun o1 o2 o3 o4=>?_
 have S0:kQ prog w b0 os0 (env::l) σ₁ s₁ σ₁ { s₁ with heap:=s₁.heap.push o }:=kQ.grow a₁.inv (kW _ _)
 have nsI:∀ {i:Nat} {h:Heap},St i h→∀ o',h.get? Ia=some o'→¬ JS o':=fun st o' e=>x11 (hns _ _ st) fun oo e1 e2=>Option.some.inj (e1.symm.trans e)▸e2.1
 refine k5L W ow hns (fun i s'=>∀ G:Prop,(∀ ρ' σ',i≤src.items.length→LGo prog w b0 os0 n Γ env A l σ₁ s₁ src Ia St i ρ' σ' s'→KU src.guard σ₁ turn (src.items.drop i) ρ' σ' Q→G)→G)
  (fun {i s'} j=>j _ fun ρ' σ' hi G hq=>⟨hi,G.st (G.same F a₁ hsrc (QK hq))⟩) (fun {s' h2 tk2} j kI=>j _ fun ρ' σ' hi G hq=>?_) (fun {i s' v h2 tk2 E} hlt j hP hst2 kI=>j _ fun ρ' σ' hi G hq=>?_)
  fun G k=>k ρ σ₁ (Nat.zero_le _) ⟨.ofStep F S0,a₁.step S0,a₁.inv.fresh nIa,fun z9=>st0⟩ q
 ·rw[List.drop_length] at hq
  obtain ⟨T3,a3⟩:=At.poke F G.a G.T (tk:=tk2) nIa o4 o1 G.nI o2 (nsI (G.st (G.same F a₁ hsrc hq.1))) kI
  exact PS.next T3 a3 hq.2
 ·have sm:=G.same F a₁ hsrc (QK hq)
  rw[UJ (List.getElem?_eq_getElem hlt)] at hq
  obtain ⟨T3,a3⟩:=At.poke F G.a G.T (tk:=tk2) nIa o4 o1 G.nI o2 (nsI (G.st sm)) kI
  refine x11 (hit i v hlt hP) fun y0 hy0 rv=>?_
  rw[(List.getElem?_eq_getElem hlt).symm.trans hy0|>Option.some.inj] at hq
  refine wpAny_mono (hT a3 (rv.keep (T3.tupKeep F a₁)) hq.2) (fun z9 s4 z=>wpAny_mono z (fun f s5 z=>x33 z fun op ρ5 σ5 S5 a5 fr5 q5=>?_) fun z9 z9 z=>z.elim) fun z9 z9 z=>z.elim
  cases op with
  | some vv=>exact x11 fr5 fun uu e rr=>.inr ⟨uu,e,PS.ret (T3.trans S5) a5 rr q5⟩
  | none =>
   refine .inl ⟨fr5,fun G' k=>k ρ5 σ5 hlt ?_ q5⟩
   refine x11 (hns _ _ hst2) fun oo eo z9=>?_
   have fI:=S5.free eo G.nI o1 o3
   refine ⟨T3.trans S5,a5,fI.2,fun sm5=>W.frame _ _ _ hst2 fun b hb o' e=>?_⟩
   rcases hfp b hb with rfl | hg | ht
   ·exact Option.some.inj (eo.symm.trans e)▸fI.1
   ·refine (qj a₁.inv hsrc hg).2.elim fun og hog=>?_
    have:h2.get? b=some og:=kI b og (fun z=>by rw[z,nIa] at hog;injection hog) (by refine er (sm b hg) ?_;exact hog)
    refine er (sm5 b hg) (er hog ?_);exact this.symm.trans e
   ·refine x20 ht fun vs m ht=>?_
    have e1:h2.get? b=_:=T3.tupKeep F a₁ _ _ .tup ht
    refine er (Eq.symm e) (er e1 ?_);exact (T3.trans S5).tupKeep F a₁ _ _ .tup ht
theorem k9s (B:Ws Γ.K b0) (nd:Γ.vars.Nodup) {i:Nat} {x:PySem.Str} {it:IT} {iter:Expr} {ib:List IS} {body:List Stmt} {p p':Pos} {k:Nat} (hx:Γ.vars[i]?=some x) (hs:ckI k Γ it iter=true) (hI:SI prog w b0 os0 call init n Γ it iter) (hB:SXs prog w b0 os0 call init n Γ ib body) :
  SX prog w b0 os0 call init n Γ (.for1 i it ib) (.For (.Name x p') iter body [] p):=by
 intro env ρ σ s A l Q X F a q
 refine wpAny_For (wpAny_mono (hI a q) (fun u s₁ z=>?_) fun z9 z9 z=>PXS.ofPX F a z) (fun v=>wF hs v env)
 refine x22 z ?_;clear z;intro src σ₁ S₁ hsrc q
 have a₁:=a.step S₁
 refine wpAny_mono (UE F B.H a₁ hsrc (E:=PXS prog w b0 os0 n Γ env A l σ s X) (target:=.Name x p') (body:=body) (fun z9 z9 h=>wpAny_pure h) (fun {x' u' ρ' σ' s' K} a' r' q'=>?_) q) (fun it s₂ z=>codeAny_mono z fun r s' z=>?_) fun z9 z9 z=>z
 ·refine wpAny_assign_Name (Jx F a' nd hx r' fun s'' S'' a''=>?_)
  refine wpAny_mono (hB F a'' q') (fun z9 z9 z=>z.back S'') fun z9 z9 z=>(k8m z).elim
 ·cases r with
  | ok f=>exact PS.back (.ofStep F S₁) z
  | error e=>exact z
theorem k8w (B:Ws Γ.K b0) (nd:Γ.vars.Nodup) {is:List Nat} {ts:List Expr} {kk:Nat} {it:IT} {iter:Expr} {ib:List IS} {body:List Stmt} {p p':Pos} {k:Nat} (hx:k9j Γ is ts=true) (hs:ckI k Γ it iter=true) (hI:SI prog w b0 os0 call init n Γ it iter) (hB:SXs prog w b0 os0 call init n Γ ib body) :
  SX prog w b0 os0 call init n Γ (.forT is it ib) (.For (.Tuple ts kk p') iter body [] p):=by
 intro env ρ σ s A l Q X F a q
 refine wpAny_For (wpAny_mono (hI a q) (fun u s₁ z=>?_) fun z9 z9 z=>PXS.ofPX F a z) (fun v=>wF hs v env)
 refine x22 z ?_;clear z;intro src σ₁ S₁ hsrc q
 have a₁:=a.step S₁
 refine wpAny_mono (UE F B.H a₁ hsrc (E:=PXS prog w b0 os0 n Γ env A l σ s X) (target:=.Tuple ts kk p') (body:=body) K11 (fun {x' u' ρ' σ' s' K} a' r' q'=>?_) q) (fun it s₂ z=>codeAny_mono z fun r s' z=>?_) fun z9 z9 z=>z
 ·refine x11 (k0S q') fun vs ex q'=>?_
  replace q':=K1q q'
  rw[ex] at r'
  exact Yk F nd a'.room.1 a' hx r' q'.1 fun s'' S'' a''=>wpAny_mono (hB F a'' q'.2) (fun z9 z9 z=>z.back S'') fun z9 z9 z=>(k8m z).elim
 ·cases r with
  | ok f=>exact PS.back (.ofStep F S₁) z
  | error e=>exact z
theorem k5A {ic:IE} {c:Expr} {ib:List IS} {body:List Stmt} {p:Pos} (hC:SB prog w b0 os0 call init n Γ ic c) (hB:SXs prog w b0 os0 call init n Γ ib body) :
  SX prog w b0 os0 call init n Γ (.while ic ib) (.While c body [] p):=by
 intro env ρ σ s A l Q X F a q
 refine q.elim fun k q=>wpAny_While ?_
 refine codeAny_whileLoop (fun m s'=>∀ G:Prop,(∀ ρ' σ',Kc prog w b0 os0 env l σ s σ' s'→At prog w b0 os0 n Γ env ρ' σ' s' A (env::l)→k4h (fun ρ σ K=>evB call init ic ρ σ K (fun z9 z9=>False)) (fun ρ σ K=>exs call init ib ρ σ K (fun z9 z9 z9=>False)) m ρ' σ' Q→G)→G) (fun m s' j=>j _ fun ρ' σ' S a' q=>?_) k fun G k=>k ρ σ (.refl a.inv) a q
 cases m with
 | zero=>exact q.elim
 | succ m =>
  refine wpAny_mono (hC a' q) (fun b s₁ z=>x11 z fun σ₁ S₁ q₁=>?_) fun z9 z9 z=>(K1Y z).elim
  have SS:=S.trans (.ofStep F S₁)
  cases b with
  | false=>exact wpAny_execs_nil (PS.next SS (a'.step S₁) q₁)
  | true =>
   refine wpAny_mono (hB F (a'.step S₁) q₁) (fun f s₂ z=>x33 z fun o ρ₂ σ₂ S₂ a₂ fr q₂=>?_) fun z9 z9 z=>(k8m z).elim
   cases o with
   | none=>refine er (show f=.next from fr) ?_;exact ⟨m,Nat.lt_succ_self m,fun G k=>k ρ₂ σ₂ (SS.trans S₂) a₂ q₂⟩
   | some v=>exact x11 fr fun u e r=>by refine er e ?_;exact PS.ret (SS.trans S₂) a₂ r q₂
end
end
section
set_option genCtorIdx false
set_option genInjectivity false
open PySem PySem.Calls PyProof.Rows PySem.W Builtin.ObjectAttr
noncomputable def k64:Value→Bool
 | .ref _=>true
 | _=>false
theorem k5R {v:Value} (e:k64 v=true):∃ a,v=.ref a:=by cases v <;> first | exact ⟨_,rfl⟩ | injection e
noncomputable def JV:List Value→Bool
 | []=>false
 | v::r=>if k64 v=true then JV r else v::r==[.type "Exception",.type "BaseException",.type "object"]
theorem wc {P:List Value→Prop} (h1:∀ a r,P r→P (.ref a::r)) (h2:P [.type "Exception",.type "BaseException",.type "object"]):∀ {bm:List Value},JV bm=true→P bm
 | [],h=>by injection h
 | v::r,h=>by
  cases e:k64 v with
  | true =>
   obtain ⟨a,rfl⟩:=k5R e
   exact h1 a r (wc h1 h2 h)
  | false =>
   replace h:(if k64 v=true then JV r else v::r==_)=true:=h
   rw[e] at h
   exact eq_of_beq h▸h2
theorem jw {X:String} {bm:List Value} (h:JV bm=true):bm.contains (.type X)=[Value.type "Exception",.type "BaseException",.type "object"].contains (.type X) :=
 wc (P:=fun bm=>bm.contains (.type X)=[Value.type "Exception",.type "BaseException",.type "object"].contains (.type X)) (fun a r h=>by refine er List.contains_cons (er h ?_);rfl) rfl h
theorem zH (self:Value) {bm:List Value} (h:JV bm=true):refuseLoop self "__setattr__" bm=pure () :=
 wc (P:=fun bm=>refuseLoop self "__setattr__" bm=pure ()) (fun a r h=>by rw[refuseLoop_ref];exact h) (PySem.F.store_Exception.passes self) h
noncomputable def K2a:Data→Option ClassData
 | .cls cd=>some cd
 | _=>none
theorem k8V {d:Data} {x:ClassData} (e:K2a d=some x):d=.cls x:=by cases d <;> first | exact Option.some.inj e▸rfl | injection e
noncomputable def K18 (C:Value):List Value→Option (List Value)
 | []=>none
 | x::r=>if (x==C)=true then some r else none
theorem k8a {C:Value} {l r:List Value} (e:K18 C l=some r):l=C::r:=by
 cases l with
 | nil=>injection e
 | cons x l=>exact oi e fun h e=>by exact er (eq_of_beq h) (er e rfl)
noncomputable def six {α:Type}:List α→Option (α×α×α×α×α×α)
 | [a,b,c,d,e,f]=>some (a,b,c,d,e,f)
 | _=>none
theorem K0u {α:Type} {l:List α} {x:α×α×α×α×α×α} (h:six l=some x):l=[x.1,x.2.1,x.2.2.1,x.2.2.2.1,x.2.2.2.2.1,x.2.2.2.2.2]:=by
 rcases l with _ | ⟨a,_ | ⟨b,_ | ⟨c,_ | ⟨d,_ | ⟨e,_ | ⟨f,_ | ⟨g,l⟩⟩⟩⟩⟩⟩⟩ <;> first | exact Option.some.inj h▸rfl | injection h
noncomputable def k2Z (K:Frag) (C:Addr):Bool:=has (K.lookup C) (fun o=>o.cls==.type "type" && has (K2a o.data) fun cd=>cd.hasDict && !cd.hasDel&&has (K18 (.ref C) cd.mro) JV&&has (six o.slots.toList) fun k=>k.2.2.2.2.1==some (.builtin "Exception.__new__")) &&
 specialIn K (.ref C) "__call__" == some (some (.builtin "type.__call__"))&&instIn K (.ref C) (.type "type")==some true
theorem k71 {C:Addr} {o:PySem.Obj} {cd:ClassData} {bm:List Value} {k0 k1 k2 k3 k4 k5:Option Value} (f1:o.cls=.type "type") (hd:o.data=.cls cd) (f2:cd.hasDict=true) (f3:cd.hasDel=false) (f4:cd.mro=.ref C::bm) (f5:o.slots=#[k0,k1,k2,k3,k4,k5]) (f6:k4=some (.builtin "Exception.__new__")) :
  o=excClassObj cd.name cd.qualname C cd.ns cd.bases bm true cd.slotNames cd.subclasses cd.abstract cd.collection o.dict k0 k1 k2 k3 k5 "Exception.__new__" := by
 have e:cd=⟨cd.name,cd.bases,.ref C::bm,cd.ns,cd.qualname,true,cd.slotNames,cd.subclasses,cd.abstract,cd.collection,false⟩:=by exact er (Eq.symm f4) (er (Eq.symm f2) (er (Eq.symm f3) rfl))
 show (⟨o.cls,o.dict,o.data,o.slots⟩:PySem.Obj)=_
 refine er f1 (er hd (er f5 (er f6 ?_)))
 exact congrArg (fun z=>(⟨.type "type",o.dict,.cls z,#[k0,k1,k2,k3,some (.builtin "Exception.__new__"),k5]⟩:PySem.Obj)) e
theorem Wc {K:Frag} {C:Addr} (e:k2Z K C=true) {G:Prop} (k:∀ nm q N bs bm sn sub ab col dd k0 k1 k2 k3 k5,K.lookup C=some (excClassObj nm q C N bs bm true sn sub ab col dd k0 k1 k2 k3 k5 "Exception.__new__")→JV bm=true →
  specialIn K (.ref C) "__call__" = some (some (.builtin "type.__call__"))→instIn K (.ref C) (.type "type")=some true→G):G :=
 b3 e fun e1 e2 e3=>x11 (kS e1) fun o ho e=>b2 e fun f1 e=>x11 (kS e) fun cd hd e=>b4 e fun f2 f3 f4 f5=>x11 (kS f4) fun bm hm T=>x11 (kS f5) fun kk hs f6 =>
  k _ _ _ _ bm _ _ _ _ _ _ _ _ _ _ (k71 (eq_of_beq f1) (k8V hd) f2 ((Bool.not_eq_true' _).mp f3) (k8a hm) (Array.toList_inj.1 (K0u hs)) (eq_of_beq f6)▸ho) T (eq_of_beq e2) (eq_of_beq e3)
noncomputable abbrev jv (C t:Addr):Obj:={ cls:=.ref C,data:=.fields #[.ref t,.none,.none,.none,.bool false,.none] }
section
variable {prog:Program} {w:World} {A:Around} {R:Result→Shared→Prop} {h:Heap} {g:Array GenState} {d:Drawn} {t:Nat} {os:OsState} {K:Frag}
variable {nm q:Str} {C N:Addr} {bs bm:List Value} {sn:List Str} {sub:List Value} {ab:Bool} {col:Option Bool} {dd:Option Addr} {k0 k1 k2 k3 k5:Option Value}
theorem ub {M:Model} {E:Value→Shared→Prop} (T:JV bm=true) {rest:List Value} {Q:Unit→Shared→Prop} (hC:h.get? C=some (excClassObj nm q C N bs bm true sn sub ab col dd k0 k1 k2 k3 k5 "Exception.__new__"))
  (hq:Q () ⟨h,g,d,t,os⟩):wpAny M A (checkBuiltinCall "Exception.__new__" ⟨.ref C::rest,[]⟩) Q E ⟨h,g,d,t,os⟩:=by
 have F:=PySem.F.excBase_Exception
 have hcont:(Value.ref C::bm).contains (.type "Exception")=true:=by refine er List.contains_cons (er (jw T) ?_);rfl
 have hstar:=F.noStar
 simp only[checkBuiltinCall,F.newKind,F.newSplit,F.newRow]
 repeat (first | refine wpAny_loadPart_at hC ?_ | (refine wpAny_isSubtype_exc hC ?_;refine er hcont ?_) | refine wpAny_staticBase_exc hC ?_ | refine wpAny_madeBy_exc hC ?_ | simp only[bne_self_eq_false,Bool.false_eq_true,if_false] | wp_step)
 exact hq
theorem k8B (T:JV bm=true) {rest:List Value} (hC:h.get? C=some (excClassObj nm q C N bs bm true sn sub ab col dd k0 k1 k2 k3 k5 "Exception.__new__"))
  (hq:R (.ok (.ret (.ref (h.objs.size+1)))) ⟨(h.push { cls:=.type "tuple",data:=.seq rest.toArray }).push (jv C h.objs.size),g,d,t,os⟩) (hrest:rest.length≤sizeLine) :
  codeAny (model prog w) A (.builtin "Exception.__new__" ⟨.ref C::rest,[]⟩) R ⟨h,g,d,t,os⟩:=by
 have F:=PySem.F.excBase_Exception
 have hends:=F.ends
 have hcB:(Value.ref C::bm).contains (.type "Exception")=true:=by refine er List.contains_cons (er (jw T) ?_);rfl
 have hcA:(Value.ref C::bm).contains (.type "AttributeError")=false:=by refine er List.contains_cons (er (jw T) ?_);rfl
 have hcN:(Value.ref C::bm).contains (.type "NameError")=false:=by refine er List.contains_cons ?_;refine er (jw T) ?_;rfl
 refine codeAny_builtinAt F.entry ?_
 unfold Builtin.«BaseException.__new__»
 refine PySem.wpAt_bind ?_
 show PySem.wpAt _ _ _ (stack >>= _) _ _ _
 refine PySem.wpAt_bind (PySem.wpAt_stack fun p below=>PySem.wpAt_of_wpAny ?_)
 wp_walk
 refine PySem.wpAt_of_wpAny ?_
 refine er F.owner ?_
 repeat (first | with_reducible refine wpAny_madeHere_exc F.canon hC ?_ | with_reducible refine wpAny_loadPart_at hC ?_ | (with_reducible refine wpAny_isSubtype_exc hC ?_;first | rw[hcB] | rw[hcA] | rw[hcN]) | wp_step)
 show R _ _
 refine er (Heap.size_push _ _) ?_
 exact hq
theorem k6e (X:K.In h) (ck:k2Z K C=true) {fI:Addr} {rest:List Value} (hi:findIn K (.ref C) "__init__" = some (some (.ref fI))) (hf:typeIn K (.ref fI)=some (.type "function")) (hrest:rest.length≤sizeLine)
  (hq:codeAny (model prog w) (A.under (.builtin "type.__call__" ⟨.ref C::rest,[]⟩)) (.call (.ref fI) ⟨.ref (h.objs.size+1)::rest,[]⟩) (InitBack (h.objs.size+1) R)
   ⟨(h.push { cls:=.type "tuple",data:=.seq rest.toArray }).push (jv C h.objs.size),g,d,t,os⟩) :
  codeAny (model prog w) A (.call (.ref C) ⟨rest,[]⟩) R ⟨h,g,d,t,os⟩:=by
 refine bc fun zg=>?_
 refine Wc ck fun nm q N bs bm sn sub ab col dd k0 k1 k2 k3 k5 ho T c1 c2=>?_
 have hC:=X _ _ ho
 have call:=looks_specialIn (M:=model prog w) X c1
 have typ:=looks_instIn (M:=model prog w) X c2
 have hi':=looks_findIn (M:=model prog w) X hi
 refine zg ?_;clear zg
 refine codeAny_of_tree ?_
 show wpAny _ _ (callAny (.ref C) _) _ _ _
 refine nd_load hC ?_
 show wpAny _ _ (callAny.viaDunder (.ref C) _) _ _ _
 unfold callAny.viaDunder
 refine wpAny_bind (call.at ?_)
 dsimp only
 refine er (tc_bind _) ?_
 refine wpAny_bind (wpAny_pure (wpAny_bind (wpAny_pure ?_)))
 refine wpAny_pure (a:=Fin.again (.call (.builtin "type.__call__") ⟨.ref C::rest,[]⟩)) (And.intro rfl ?_)
 refine codeAny_call_builtin_at (Code.quiet_builtin _ (by decide +kernel)) entry_typeCall (check_slot tc_kind tc_split typ (tc_args _ _ _) ?_)
 unfold Builtin.«type.__call__»
 have hm:Looks (model prog w) h (mroOf (.ref C)) (.ref C::bm):=((Looks.ld (part:=none) hC).andThen .now).andThen .now
 have made:Looks (model prog w) h (Bind.madeBy (.ref C)) (some "Exception.__new__"):=by
  intro A Q E s k q
  obtain ⟨hh,g,d,tk,os⟩:=s
  exact wpAny_madeBy_exc (k _ _ hC) q
 repeat (first | simp only[Bool.false_eq_true,if_false,List.isEmpty_cons] | with_reducible refine wpAny_call ?_ | lk)
 refine codeAny_call_builtin_code (Code.quiet_builtin _ (by decide +kernel)) (ub T hC (k8B T hC ?_ hrest))
 have k:∀ b o,h.get? b=some o→((h.push { cls:=.type "tuple",data:=.seq rest.toArray }).push (jv C h.objs.size)).get? b=some o:=fun b o e=>Heap.get?_push_of_some _ (Heap.get?_push_of_some _ e)
 have hx:((h.push { cls:=.type "tuple",data:=.seq rest.toArray }).push (jv C h.objs.size)).get? (h.objs.size+1)=some (jv C h.objs.size):=by heap_get
 have t1:Looks (model prog w) ((h.push { cls:=.type "tuple",data:=.seq rest.toArray }).push (jv C h.objs.size)) (typeOf (.ref (h.objs.size+1))) (.ref C):=(Looks.ld hx).andThen .now
 have self:Looks (model prog w) h (isSubtype (.ref C) (.ref C)) true:=by
  intro A Q E s k q
  obtain ⟨hh,g,d,tk,os⟩:=s
  refine wpAny_isSubtype_exc (k _ _ hC) ?_
  refine er (show (Value.ref C::bm).contains (.ref C)=true by simp) ?_;exact q
 have s1:=self.keeps k
 have i1:=hi'.keeps k
 have b1:=(bind_fn (M:=model prog w) X (.ref (h.objs.size+1)) hf).keeps k
 show wpAny _ _ _ _ _ _
 unfold isInstance callSpecial? specialOf
 repeat (first | with_reducible refine wpAny_call ?_ | lk)
 refine codeAny_mono hq fun r s' z=>?_
 rcases r with e | (v | _ | _ | _) <;> first | exact z | exact z.elim | skip
 obtain ⟨rfl,z⟩:=z
 exact wpAny_pure (wpAny_pure z)
end
section
variable {α:Type}
theorem k4C {n x:PySem.Str} {names:List PySem.Str} {i:Nat} (nd:(n::names).Nodup) (h:names[i]?=some x):(x==n)=false:=beq_false_of_ne fun e=>(List.nodup_cons.1 nd).1 (e▸List.mem_of_getElem? h)
theorem Jp:∀ {names:List PySem.Str} {us:List Value} {i:Nat} {x:PySem.Str} {v:Value},names.Nodup→names[i]?=some x→us[i]?=some v→(names.zip us).lookup x=some v
 | [],_,_,_,_,_,h,_=>by injection h
 | _::_,[],_,_,_,_,_,h=>by injection h
 | n::names,u::us,0,x,v,_,h1,h2=>by
  refine er List.zip_cons_cons ?_;refine er List.lookup_cons ?_;refine er (show n=x from Option.some.inj h1) ?_;refine er (beq_self_eq_true _) ?_;exact h2
 | n::names,u::us,i+1,x,v,nd,h1,h2=>by
  refine er List.zip_cons_cons ?_;refine er List.lookup_cons ?_;refine er (k4C nd h1) ?_
  exact Jp (List.nodup_cons.mp nd).2 h1 h2
theorem We:∀ {names:List PySem.Str} {us:List Value} {i:Nat} {x:PySem.Str},names.Nodup→names[i]?=some x→us.length≤i→(names.zip us).lookup x=none
 | [],_,_,_,_,h,_=>by injection h
 | _::_,[],_,_,_,_,_=>rfl
 | n::names,u::us,0,x,_,_,h2=>absurd h2 (Nat.not_succ_le_zero _)
 | n::names,u::us,i+1,x,nd,h1,h2=>by
  refine er List.zip_cons_cons (er List.lookup_cons (er (k4C nd h1) ?_))
  exact We (List.nodup_cons.mp nd).2 h1 (Nat.le_of_succ_le_succ h2)
theorem k2q {f:PySem.Str→Option Value}:∀ {names:List PySem.Str} {us:List Value},us.length=names.length→(∀ (i:Nat) x v,names[i]?=some x→us[i]?=some v→f x=some v)→names.filterMap (fun n=>(f n).map fun v=>(n,v))=names.zip us
 | [],us,h,_=>by refine er (List.eq_nil_of_length_eq_zero h) ?_;rfl
 | n::names,[],h,_=>by injection h
 | n::names,u::us,h,k=>by
  refine er List.filterMap_cons (er (k 0 n u rfl rfl) ?_)
  exact congrArg (_::·) (k2q (Nat.succ.inj h) fun i x v e1 e2=>k (i+1) x v e1 e2)
theorem k1f {d:Value} {x:PySem.Str}:∀ {names:List PySem.Str} {us:List Value},us.length+1=names.length→names[us.length]?=some x→names.zip us++[(x,d)]=names.zip (us++[d])
 | [n],[],_,hx=>by refine er (Eq.symm (Option.some.inj hx)) ?_;rfl
 | [],_,h,_=>by injection h
 | _::_::_,[],h,_=>by injection Nat.succ.inj h
 | n::names,u::us,h,hx=>congrArg (_::·) (k1f (Nat.succ.inj h) hx)
theorem k5H {names:List PySem.Str} {k:Nat} (h:k+1=names.length):∃ x,names[k]?=some x∧names.drop k=[x]:=by
 have hk:k<names.length:=h▸Nat.lt_succ_self k
 exact ⟨names[k],List.getElem?_eq_getElem hk,by exact er (List.drop_eq_getElem_cons hk) (er (List.drop_of_length_le (Nat.le_of_eq h.symm)) rfl)⟩
theorem k5C {names:List PySem.Str} {vals dv:List Value} (nd:names.Nodup) (hg:(vals.length=names.length∧dv.length≤1∧dv.length≤names.length)∨(vals.length+1=names.length∧dv.length=1)) :
  (forIn ((names.drop (names.length-(dv.drop (dv.length-names.length)).length)).zip (dv.drop (dv.length-names.length))) (names.zip vals) fun (x:PySem.Str×Value) s=>if (s.lookup x.1).isNone=true then pure (ForInStep.yield (s++[(x.1,x.2)])) else pure (ForInStep.yield s):Sem (List (PySem.Str×Value))) =
   pure (names.zip (vals++dv.drop (dv.length+vals.length-names.length)))∧(vals++dv.drop (dv.length+vals.length-names.length)).length=names.length∧names.length-(dv.drop (dv.length-names.length)).length≤vals.length:=by
 rcases dv with _ | ⟨d,_ | ⟨e,r⟩⟩
 ·rcases hg with g | g
  ·refine er List.drop_nil ?_;refine er List.drop_nil ?_;refine er List.zip_nil_right ?_;refine er (List.append_nil _) ?_;exact ⟨rfl,g.1,Nat.le_trans (Nat.sub_le _ _) (Nat.le_of_eq g.1.symm)⟩
  ·exact absurd g.2 (by decide)
 ·have l1:1≤names.length:=hg.elim (fun g=>g.2.2) fun g=>g.1▸Nat.le_add_left 1 _
  refine x11 (k5H (names:=names) (k:=names.length-1) (Nat.sub_add_cancel l1)) fun x hx hd=>?_
  refine er (show [d].length-names.length=0 from Nat.sub_eq_zero_of_le l1) ?_;rw[List.drop_zero,show [d].length=1 from rfl,hd]
  show ((if ((names.zip vals).lookup x).isNone=true then _ else _:Sem (ForInStep (List (PySem.Str×Value)))) >>= _)=_∧_
  rcases hg with g | g
  ·rw[Jp nd hx (List.getElem?_eq_getElem (show names.length-1<vals.length by omega)),show 1+vals.length-names.length=1 by omega]
   rw[show [d].drop 1=[] from rfl,List.append_nil]
   exact ⟨rfl,g.1,by omega⟩
  ·rw[We nd hx (show vals.length≤names.length-1 by omega),show 1+vals.length-names.length=0 by omega]
   rw[List.drop_zero,← k1f g.1 (show names[vals.length]?=some x by rw[← hx];congr 1;omega)]
   exact ⟨rfl,by refine er List.length_append ?_;exact g.1,by omega⟩
 ·exact absurd (hg.elim (fun g=>g.2.1) fun g=>Nat.le_of_eq g.2) (by refine er List.length_cons (er List.length_cons ?_);omega)
theorem k8g {names:List PySem.Str} {vals:List Value} {k:Nat} (nd:names.Nodup) (h:k≤vals.length):(names.take k).filter (fun n=>((names.zip vals).lookup n).isNone)=[]:=List.filter_eq_nil_iff.2 fun x hx=>by
 obtain ⟨i,hi⟩:=List.mem_iff_getElem?.1 hx
 rw[List.getElem?_take] at hi
 by_cases z:i<k
 ·rw[if_pos z] at hi
  refine er (Jp nd hi (List.getElem?_eq_getElem (Nat.lt_of_lt_of_le z h))) ?_;exact Bool.false_ne_true
 ·rw[if_neg z] at hi;injection hi
end
theorem k6U {M:Model} {A:Around} {E:Value→Shared→Prop} {s:Shared} {fd:FuncData} {ps:List Arg} {ds:List Expr} {vals dv:List Value} {od:Option (Array Value)} {Q:List (PySem.Str×Value)→Shared→Prop}
  (hp:fd.params=⟨[],ps,none,[],[],none,ds⟩) (hnd:(ps.map (·.arg)).Nodup) (hd:Looks M s.heap (seqItems? fd.defaults) od) (h1:(od.getD #[]).toList=dv)
  (hg:(vals.length=ps.length∧dv.length≤1∧dv.length≤ps.length)∨(vals.length+1=ps.length∧dv.length=1))
  (h:Q ((ps.map (·.arg)).zip (vals++dv.drop (dv.length+vals.length-ps.length))) s):wpAny M A (bindArgs fd ⟨vals,[]⟩) Q E s:=by
 obtain ⟨nm,q,pr,b,sc,g,c,d,kd,dc,pm,an,cd,ct,bl⟩:=fd
 obtain rfl:pr=_:=hp
 subst h1
 rw[← List.length_map (f:=fun x:Arg=>x.arg)] at hg h
 generalize hN:ps.map (fun x:Arg=>x.arg)=names at hnd hg h
 refine x02 (k5C hnd hg) fun e1 e2 e3=>?_
 refine wpAny_bind (wpAny_of_eq (a:=(_,_)) rfl (wpAny_bind (hd.here ?_)))
 dsimp only [List.map_nil,List.nil_append]
 refine er (show List.map (fun x:Arg=>x.arg) []++List.map (fun x=>x.arg) ps=names from hN) ?_
 refine wpAny_ite_false (decide_eq_false fun z=>?_) (wpAny_ite_false (decide_eq_false fun z=>?_) (wpAny_bind (wpAny_of_eq e1 (wpAny_bind (wpAny_of_eq (a:=(_,[])) rfl (wpAny_ite_false rfl (wpAny_pure ?_)))))))
 ·replace z:=of_decide_eq_true (b2 z fun z z9=>z)
  have:vals.length≤names.length:=by rcases hg with g | g <;> omega
  exact absurd z (Nat.not_lt.2 this)
 ·rw[k8g hnd e3] at z;injection z
 ·show Q (List.filterMap _ (names++[])) s
  refine er (List.append_nil _) ?_;rw[k2q e2 fun i x v h1 h2=>Jp hnd h1 h2];exact h
end
section
set_option genCtorIdx false
set_option genInjectivity false
open PySem PySem.Calls PyProof.Rows PySem.W
section
variable {M:Model} {A:Around} {E:Value→Shared→Prop} {s:Shared}
theorem zU {base:Heap} {env:Env} {outer:List Env} {L e C d:Addr} {vs:Array Value} {sl:Array (Option Value)} {head:Value} {hadNext:Bool} {Q:Unit→Shared→Prop}
  (hfr:A.frames=some (env::outer)) (hl:s.heap.FunFrames base (env::outer)) (hf:env.frame=some L)
  (he:s.heap.get? e=some ⟨.ref C,some d,.fields vs,sl⟩) (hsz:1<vs.size)
  (k:∀ h' T oT ts,(∀ b o,b≠e→s.heap.get? b=some o→(b∉frs (env::outer)→h'.get? b=some o)∧∃ sl,h'.get? b=some { o with slots:=sl })→h'.get? e=some ⟨.ref C,some d,.fields (vs.setIfInBounds 1 (.ref T)),sl⟩ →
   s.heap.get? T=none→T≠e→h'.get? T=some oT→oT.cls=.type "traceback" → oT.data=.fields ts→ts[3]?=some .none→Q () { s with heap:=h' }) :
  wpAny M A (do let a ← frameOf env;let pl ← entryPlaceOf L hadNext;let b ← EntryCells.newEntry head a .none (rawInt L) .none pl;setField (.ref e) 1 b) (fun z9 s'=>wpAny M A (setFlight (.ref e) none) Q E s') E s:=by
 have ne:e∉frs (env::outer):=fun hm=>by
  obtain ⟨_,zz0⟩:=hl.mem hm;refine x11 zz0 fun o ho hnf=>?_
  rw[he] at ho;injection ho with ho;subst ho;exact hnf vs rfl
 refine wpAny_bind (wpAny_frameOf_fun hfr hl hf fun h₁ hs₁=>?_)
 refine wpAny_bind (wpAny_entryPlaceOf fun pl hpl=>?_)
 unfold EntryCells.newEntry newFields
 refine wpAny_bind (wpAny_newObj_type ?_ (hpl.sizeOk5 _ _ _ _ _))
 have he₁:h₁.get? e=some ⟨.ref C,some d,.fields vs,sl⟩:=(hs₁.2.1 e ne).trans he
 generalize htb:({ cls:=.type "traceback",dict:=none,data:=.fields ([head,.ref L,.none,rawInt L,.none]++(if pl.isEmpty then List.replicate 6 Value.none else pl)).toArray }:Obj)=tb
 have htc:tb.cls=.type "traceback" := by exact er (Eq.symm htb) rfl
 have htd:tb.data=.fields ([head,.ref L,.none,rawInt L,.none]++(if pl.isEmpty then List.replicate 6 Value.none else pl)).toArray:=by exact er (Eq.symm htb) rfl
 have htf:tb.isFreed=false:=by refine er (Eq.symm htb) ?_;rfl
 have he₂:=Heap.get?_push_of_some (h:=h₁) tb he₁
 refine wpAny_setField he₂ rfl hsz ?_
 have hTe:h₁.objs.size≠e:=Nat.ne_of_gt (Heap.lt_size he₁)
 have he₃:=Heap.get?_update_self (Obj.mapFields (·.setIfInBounds 1 (Value.ref h₁.objs.size))) he₂ (Obj.isFreed_of_fields (Obj.data_mapFields rfl _))
 have hT₃:=(Heap.get?_update_other (h₁.push tb) (Obj.mapFields (·.setIfInBounds 1 (Value.ref h₁.objs.size))) (Ne.symm hTe)).trans (Heap.get?_push_size h₁ htf)
 unfold setFlight
 refine wpAny_bind (wpAny_field he₃ (Obj.data_mapFields rfl _) (x:=.ref h₁.objs.size) (by simp[hsz]) ?_)
 refine er (if_pos (show (Value.ref h₁.objs.size != Value.none)=true from by simp)) ?_
 refine wpAny_setField hT₃ htd (by simp only[List.size_toArray,List.length_append,List.length_cons,List.length_nil] <;> lia) ?_
 have nT:s.heap.get? h₁.objs.size=none:=by
  refine er hs₁.1 ?_;exact Kx _
 refine k _ h₁.objs.size _ _ (fun b o hb e'=>?_) ?_ nT hTe (Heap.get?_update_self _ hT₃ (Obj.isFreed_of_fields (Obj.data_mapFields htd _))) ((Obj.cls_mapFields _ _).trans htc) (Obj.data_mapFields htd _) (by first | (simp;done) | (rcases hpl with rfl | ⟨_,_,_,_,_,_,_,rfl⟩ <;> simp))
 ·have keep:∀ o,h₁.get? b=some o→(((h₁.push tb).update e (Obj.mapFields (·.setIfInBounds 1 (Value.ref h₁.objs.size)))).update h₁.objs.size (Obj.mapFields (·.setIfInBounds 3 ((none:Option Addr).elim Value.none fun f=>rawInt f)))).get? b=some o:=fun o q=>by
   have hbT:h₁.objs.size≠b:=Nat.ne_of_gt (Heap.lt_size q)
   refine er (Heap.get?_update_other _ _ hbT) (er (Heap.get?_update_other _ _ (Ne.symm hb)) ?_)
   exact Heap.get?_push_of_some _ q
  refine ⟨fun q=>keep o ((hs₁.2.1 b q).trans e'),?_⟩
  obtain ⟨sl',z⟩:=hs₁.2.2 b o e'
  exact ⟨sl',keep _ z⟩
 ·refine er (Heap.get?_update_other _ _ hTe) ?_
  exact he₃
end
section
variable {prog:Program} {w:World} {b0:Heap} {os0:OsState} {call:jH} {init:Addr→Option Addr} {n:Nat} {Γ:Ctx} {env:Env} {ρ ρ':Loc} {σ σ' σ₀ σ₁ σ₂:Sto} {s s' s₀ s₁ s₂:Shared} {A:Around} {l:List Env} {h h':Heap}
theorem At.turn (F:Wu b0 env) (a:At prog w b0 os0 n Γ env ρ σ s A (env::l)) (st0:b0.StaysIn s₀.heap) (T:Kc prog w b0 os0 env l σ₀ s₀ σ s) {e C d:Addr} {vs:Array Value} {sl:Array (Option Value)} {tb:Option Addr} {tk:Tok}
  (e0:s₀.heap.get? e=none) (eσ:σ.get e=some (.inst C d)) (hT:∀ t,tb=some t→s₀.heap.get? t=none∧¬ σ.has t∧∃ o ts,s.heap.get? t=some o∧o.cls=.type "traceback" ∧ o.data=.fields ts)
  (kk:∀ b o,b≠e→tb≠some b→s.heap.get? b=some o→(b∉frs (env::l)→h'.get? b=some o)∧∃ sl,h'.get? b=some { o with slots:=sl }) (he:h'.get? e=some ⟨.ref C,some d,.fields vs,sl⟩) :
  Kc prog w b0 os0 env l σ₀ s₀ σ { s with heap:=h',toks:=tk }∧At prog w b0 os0 n Γ env ρ σ { s with heap:=h',toks:=tk } A (env::l):=by
 refine bc fun zg=>?_
 have hasE:σ.has e:=jx eσ
 have ownE:∀ b,k08 env b→b≠e∧tb≠some b:=fun b o=>by
  refine x02 (a.own_not F o) fun h1 z9 zz0=>?_;obtain ⟨_,_⟩:=zz0
  refine ⟨fun z=>h1 (z▸hasE),fun z=>?_⟩
  refine x02 (hT b z) fun z9 z9 zz0=>?_;refine x22 zz0 fun ob ts h2 z9 h3=>?_
  rcases o with rfl | ⟨x,q⟩
  ·refine x11 a.env_.locs fun m zn1 z9=>?_;obtain ⟨o',es,ep,h4,h5,_⟩:=zn1
   rw[h2] at h4;injection h4 with h4;subst h4;rw[h3] at h5;injection h5
  ·obtain ⟨_,zz0⟩:=a.env_.offC x b q;refine x21 zz0 fun o' v h4 h5=>?_
   rw[h2] at h4;injection h4 with h4;subst h4;rw[h3] at h5;injection h5
 have frE:∀ b∈frs (env::l),b≠e∧tb≠some b:=fun b m=>by
  refine ⟨fun z=>a.inv.offF e hasE (z▸m),fun z=>?_⟩
  refine x31 (a.inv.frD b m) fun o' es nn h4 h5=>?_
  refine x02 (hT b z) fun z9 z9 zz0=>?_;refine x22 zz0 fun ob ts h2 z9 h3=>?_
  rw[h2] at h4;injection h4 with h4;subst h4;rw[h3] at h5;injection h5
 have TK:KW s.heap h':=fun b o st q=>by
  refine (kk b o (fun z=>?_) (fun z=>?_) q).1 fun m=>?_
  ·subst z;exact (a.inv.own _ _ eσ).notStill st q
  ·refine x02 (hT b z) fun z9 z9 zz0=>?_;refine x22 zz0 fun ob ts h2 h3 z9=>?_
   rw[h2] at q;injection q with q;subst q
   exact wV h3 (by decide) (by decide) (by decide) st
  ·refine x31 (a.inv.frD b m) fun o' es nn h4 h5=>?_
   rw[h4] at q;injection q with q;subst q
   rcases st with ⟨vs,n,e⟩ | ⟨_,_,e⟩ | ⟨_,_,e⟩
   ·subst e;injection h5
   ·rw[h5] at e;injection e
   ·rw[h5] at e;injection e
 have nb:∀ b o,b0.get? b=some o→b≠e∧tb≠some b:=fun b o q=>by
  refine ⟨(fun z=>by have:=a.inv.off e hasE;rw[← z,q] at this;injection this),fun z=>?_⟩
  have:=(hT b z).1
  rw[st0 b o q] at this;injection this
 have frames:∀ m:List Env,(∀ b∈frs m,b∈frs (env::l))→s.heap.FunFrames b0 m→h'.FunFrames b0 m:=by
  intro m
  induction m with
  | nil=>intro z9 z9;trivial
  | cons ev r ih =>
   rintro sub ⟨hk,⟨L,oL,hf,hn,ho,hd⟩,hr⟩
   have mL:L∈frs (env::l):=sub L (by simp[frs,List.filterMap_cons,hf])
   obtain ⟨sl',z⟩:=(kk L oL (frE L mL).1 (frE L mL).2 ho).2
   exact ⟨hk,⟨L,_,hf,hn,z,hd⟩,ih (fun b q=>sub b (by rw[frs,List.filterMap_cons,hf];exact List.mem_cons_of_mem _ q)) hr⟩
 have I:Inv prog w b0 os0 (env::l) σ { s with heap:=h',toks:=tk }:=by
  refine ⟨fun b c q=>?_,fun b o q=>?_,a.inv.off,frames _ (fun z9 m=>m) a.inv.frames,a.inv.offF,fun b m=>?_,a.inv.gens,a.inv.os⟩
  ·by_cases z:b=e
   ·subst z
    rw[eσ] at q;injection q with q;subst q
    exact ⟨_,_,he,rfl,(fun xs n z=>by injection z),(fun v z=>by injection z)⟩
   ·exact (a.inv.own b c q).of_get TK fun o r=>(kk b o z (fun z=>(hT b z).2.1 (jx q)) r).1 (a.inv.offF b (jx q))
  ·refine (kk b o (nb b o q).1 (nb b o q).2 (a.inv.stay b o q)).1 fun m=>?_
   have:=(a.inv.frames.mem (b:=b) m).1
   rw[q] at this;injection this
  ·refine x31 (a.inv.frD b m) fun o' es nn r d'=>?_
   obtain ⟨sl',z⟩:=(kk b o' (frE b m).1 (frE b m).2 r).2
   exact ⟨_,es,nn,z,d'⟩
 have k2:∀ b,k08 env b→∀ o,s.heap.get? b=some o→∃ sl,h'.get? b=some { o with slots:=sl }:=fun b ow o q=>(kk b o (ownE b ow).1 (ownE b ow).2 q).2
 refine x11 a.env_.locs fun m hn hm=>?_
 refine x11 T.pre fun pre ep x=>?_
 refine zg ?_;clear zg
 refine ⟨⟨I,⟨pre,ep,fun b o hb nq=>?_⟩,T.dom,fun b q=>?_⟩,⟨a.names,⟨a.env_.kind,a.env_.glob,a.env_.blt,⟨m,k1o hn (k2 _ (.inl rfl)),fun i x av e1 e2 e3=>?_⟩,fun i x av e1 e2 e3=>?_,a.env_.kinds,a.env_.all,a.env_.offL,fun x c q=>?_⟩,I,a.room,a.tab⟩⟩
 ·have hbe:b≠e:=fun z=>by rw[z,e0] at hb;injection hb
  have hbt:tb≠some b:=fun z=>by rw[(hT b z).1] at hb;injection hb
  refine bc fun zg=>?_
  obtain ⟨x1,sl1,x2⟩:=x b o hb nq
  refine zg ?_;clear zg
  refine ⟨fun q=>?_,?_⟩
  ·by_cases z:b∈frs (env::l)
   ·have:b=env.locals:=by rw[qI F,List.mem_cons] at z;exact z.resolve_right q
    exact (nq (.inr (.inl this))).elim
   ·exact (kk b o hbe hbt (x1 q)).1 z
  ·obtain ⟨sl',z⟩:=(kk b _ hbe hbt x2).2
   exact ⟨sl',z⟩
 ·cases r:s₀.heap.get? b with
  | none=>rfl
  | some o =>
   have hbe:b≠e:=fun z=>by rw[z,e0] at r;injection r
   have hbt:tb≠some b:=fun z=>by rw[(hT b z).1] at r;injection r
   cases r2:s.heap.get? b with
   | none=>have:=T.back b r2;rw[r] at this;injection this
   | some o' =>
    obtain ⟨sl',z⟩:=(kk b o' hbe hbt r2).2
    simp only at q;rw[q] at z;injection z
 ·refine x11 (hm i x av e1 e2 e3) fun v h1 h2=>?_
  exact ⟨v,h1,h2.keep TK⟩
 ·refine x22 (a.env_.cells i x av e1 e2 e3) fun c v h1 h2 h3=>?_
  exact ⟨c,v,h1,Zl h2 (k2 _ (.inr ⟨x,h1⟩)),h3.keep TK⟩
 ·refine bc fun zg=>?_
  obtain ⟨h1,zz0⟩:=a.env_.offC x c q;refine x21 zz0 fun o v h2 h3=>?_
  obtain ⟨sl',z⟩:=k2 c (.inr ⟨x,q⟩) o h2
  refine zg ?_;clear zg
  exact ⟨h1,_,v,z,h3⟩
theorem k1t (F:Wu b0 env) (a:At prog w b0 os0 n Γ env ρ σ s A (env::l)) {A':Around} (hfr:A'.frames=some (env::l)) (st0:b0.StaysIn s₀.heap) (T:Kc prog w b0 os0 env l σ₀ s₀ σ s) {e:Addr} (x:Fly s₀.heap σ e s.heap) {Q:Unit→Shared→Prop} {E:Value→Shared→Prop}
  (k:∀ s',Kc prog w b0 os0 env l σ₀ s₀ σ s'→At prog w b0 os0 n Γ env ρ σ s' A (env::l)→Fly s₀.heap σ e s'.heap→Q () s') :
  wpAny (model prog w) A' (noteFrame (.ref e) env) (fun z9 s₂=>wpAny (model prog w) A' (setFlight (.ref e) none) Q E s₂) E s:=by
 refine x43 x ?_;clear x;intro C d vs sl e0 eσ he hc
 have back:∀ t,s.heap.get? t=none→s₀.heap.get? t=none:=T.back
 unfold noteFrame
 simp only[F.frame]
 rcases hc with h1 | ⟨t,ot,ts,h1,t0,te,th,tg,tc,td,t3⟩
 ·refine wpAny_bind (wpAny_field he rfl h1 ?_)
  refine er (if_neg (by decide)) ?_
  refine zU hfr a.inv.frames F.frame he (Array.getElem?_eq_some_iff.mp h1).1 fun h' t' oT ts kk he' nT nTe hT' hTc hTd hT3=>?_
  obtain ⟨S',a'⟩:=At.turn F a st0 T (tb:=none) (tk:=s.toks) e0 eσ (fun t z=>by injection z) (fun b o nb z9 q=>kk b o nb q) he'
  exact k _ S' a' ⟨C,d,_,_,e0,eσ,he',.inr ⟨t',oT,ts,by exact er (Array.getElem?_setIfInBounds_self_of_lt (Array.getElem?_eq_some_iff.mp h1).1) rfl,back t' nT,nTe,(fun z=>by obtain ⟨o,zz⟩:=a.inv.has_there z;rw[nT] at zz;injection zz),hT',hTc,hTd,hT3⟩⟩
 ·refine wpAny_bind (wpAny_field he rfl h1 ?_)
  refine er (if_pos (show (Value.ref t != Value.none)=true from by simp)) ?_
  refine wpAny_bind (wpAny_field tg td t3 ?_)
  refine er (if_neg (show ¬ ((Value.none==rawInt env.locals)=true) from by simp[rawInt])) ?_
  refine wpAny_bind (wpAny_setField tg td (Array.getElem?_eq_some_iff.mp t3).1 ?_)
  have other:∀ b,b≠t→(s.heap.update t (Obj.mapFields (·.setIfInBounds 3 Value.none))).get? b=s.heap.get? b:=fun b hb=>Heap.get?_update_other _ _ (Ne.symm hb)
  have ft:t∉frs (env::l):=fun m=>by
   refine x31 (a.inv.frD t m) fun o' es nn h4 h5=>?_
   rw[tg] at h4;injection h4 with h4;subst h4;rw[td] at h5;injection h5
  have hfrm:(s.heap.update t (Obj.mapFields (·.setIfInBounds 3 Value.none))).FunFrames b0 (env::l):=by
   refine a.inv.frames.of_keeps fun b o q nf=>⟨o,(other b fun z=>?_).trans q,rfl⟩
   rw[z,tg] at q;injection q with q;subst q;exact nf _ td
  refine zU (s:={ s with heap:=s.heap.update t (Obj.mapFields (·.setIfInBounds 3 Value.none)) }) hfr hfrm F.frame ((other e (Ne.symm te)).trans he) (Array.getElem?_eq_some_iff.mp h1).1 fun h' t' oT ts' kk he' nT nTe hT' hTc hTd hT3=>?_
  have nT':t'≠t:=fun z=>by
   have:=Heap.get?_update_self (Obj.mapFields (·.setIfInBounds 3 Value.none)) tg (Obj.isFreed_of_fields (Obj.data_mapFields td _))
   simp only[z] at nT
   rw[this] at nT;injection nT
  have nTs:s.heap.get? t'=none:=(other t' nT').symm.trans nT
  obtain ⟨S',a'⟩:=At.turn F a st0 T (tb:=some t) (tk:=s.toks) e0 eσ (fun t' z=>by injection z with z;subst z;exact ⟨t0,th,ot,ts,tg,tc,td⟩) (fun b o nb nt q=>kk b o nb ((other b fun z=>nt (by exact er z rfl)).trans q)) he'
  exact k _ S' a' ⟨C,d,_,_,e0,eσ,he',.inr ⟨t',oT,ts',by exact er (Array.getElem?_setIfInBounds_self_of_lt (Array.getElem?_eq_some_iff.mp h1).1) rfl,back t' nTs,nTe,(fun z=>by obtain ⟨o,zz⟩:=a.inv.has_there z;rw[nTs] at zz;injection zz),hT',hTc,hTd,hT3⟩⟩
end
theorem Qg {x:PySem.Str}:∀ (names:List (PySem.Str×NameKind)) (k:Nat) (acc:List (PySem.Str×Addr)),((x,NameKind.cell)∈names∨(acc.lookup x).isSome=true)→((cellsFrom k names acc).lookup x).isSome=true
 | [],k,acc,h=>by
  rcases h with h | h
  ·simp at h
  ·exact h
 | (nm,kd)::r,k,acc,h=>by
  unfold cellsFrom
  split
  ·refine Qg r _ _ ?_
   rcases h with h | h
   ·rcases List.mem_cons.mp h with q | q
    ·right;injection q with q;subst q;simp
    ·exact .inl q
   ·right
    refine er List.lookup_cons ?_
    split
    ·rfl
    ·exact h
  ·rename_i nk
   refine Qg r _ _ ?_
   rcases h with h | h
   ·rcases List.mem_cons.mp h with q | q
    ·cases q;exact (nk rfl).elim
    ·exact .inl q
   ·exact .inr h
theorem uI {kd:PySem.Str→Option NameKind} {x:PySem.Str}:∀ {binds:List (PySem.Str×Value)} {m:PySem.Str→Option Value},x∉binds.map (·.1)→bindL kd binds m x=m x
 | [],_,_=>rfl
 | (n,v)::r,m,h=>(uI (binds:=r) (m:=if kd n=some .local then fun y=>if y=n then some v else m y else m) fun z=>h (.tail _ z)).trans (by
  by_cases q:kd n=some .local
  ·exact (congrFun (if_pos q) x).trans (if_neg fun (e:x=n)=>h (e▸.head _))
  ·exact congrFun (if_neg q) x)
theorem UD {kd:PySem.Str→Option NameKind} {x:PySem.Str}:∀ {binds:List (PySem.Str×Value)} {m:PySem.Str→Option Value},x∉binds.map (·.1)→bindC kd binds m x=m x
 | [],_,_=>rfl
 | (n,v)::r,m,h=>(UD (binds:=r) (m:=if kd n=some .local then m else fun y=>if y=n then some v else m y) fun z=>h (.tail _ z)).trans (by
  by_cases q:kd n=some .local
  ·exact congrFun (if_pos q) x
  ·exact (congrFun (if_neg q) x).trans (if_neg fun (e:x=n)=>h (e▸.head _)))
theorem YA {names:List PySem.Str} {us:List Value} {x:PySem.Str} (h:x∈(names.zip us).map (·.1)):x∈names:=by
 refine x11 (List.mem_map.mp h) fun p hp zr2=>?_;subst zr2
 exact (List.of_mem_zip hp).1
theorem k2c {kd:PySem.Str→Option NameKind}:∀ {names:List PySem.Str} {us:List Value} {m:PySem.Str→Option Value} {i:Nat} {x:PySem.Str} {u:Value},names.Nodup→names[i]?=some x→us[i]?=some u→kd x=some .local→bindL kd (names.zip us) m x=some u
 | [],_,_,_,_,_,_,h,_,_=>by simp at h
 | _::_,[],_,_,_,_,_,_,h,_=>by simp at h
 | n::names,v::us,m,0,x,u,nd,h1,h2,hk=>by
  obtain rfl:=Option.some.inj h1
  obtain rfl:=Option.some.inj h2
  exact (uI (binds:=names.zip us) (m:=if kd n=some .local then fun y=>if y=n then some v else m y else m) fun z=>(List.nodup_cons.mp nd).1 (YA z)).trans ((congrFun (if_pos hk) n).trans (if_pos rfl))
 | n::names,v::us,m,i+1,x,u,nd,h1,h2,hk=>k2c (names:=names) (us:=us) (m:=if kd n=some .local then fun y=>if y=n then some v else m y else m) (i:=i) (List.nodup_cons.mp nd).2 h1 h2 hk
theorem k1H {kd:PySem.Str→Option NameKind}:∀ {names:List PySem.Str} {us:List Value} {m:PySem.Str→Option Value} {i:Nat} {x:PySem.Str} {u:Value},names.Nodup→names[i]?=some x→us[i]?=some u→kd x=some .cell→bindC kd (names.zip us) m x=some u
 | [],_,_,_,_,_,_,h,_,_=>by simp at h
 | _::_,[],_,_,_,_,_,_,h,_=>by simp at h
 | n::names,v::us,m,0,x,u,nd,h1,h2,hk=>by
  obtain rfl:=Option.some.inj h1
  obtain rfl:=Option.some.inj h2
  exact (UD (binds:=names.zip us) (m:=if kd n=some .local then m else fun y=>if y=n then some v else m y) fun z=>(List.nodup_cons.mp nd).1 (YA z)).trans ((congrFun (if_neg (by refine er hk ?_;decide)) n).trans (if_pos rfl))
 | n::names,v::us,m,i+1,x,u,nd,h1,h2,hk=>k1H (names:=names) (us:=us) (m:=if kd n=some .local then m else fun y=>if y=n then some v else m y) (i:=i) (List.nodup_cons.mp nd).2 h1 h2 hk
noncomputable def vN:V→Bool
 | .none=>true
 | _=>false
noncomputable def uN:Value→Bool
 | .none=>true
 | _=>false
noncomputable def dIs (v:V) (u:Value):Bool:=(vN v&&uN u)||vIs v u
theorem K1G {v:V} (e:vN v=true):v=.none:=by cases v <;> first | rfl | injection e
theorem K0F {v:Value} (e:uN v=true):v=.none:=by cases v <;> first | rfl | injection e
theorem K0m {h:Heap} {v:V} {u:Value} (e:dIs v u=true):VR h v u:=(Bool.or_eq_true_iff.1 e).elim (fun e=>b2 e fun a b=>by refine er (K1G a) (er (K0F b) ?_);rfl) k5u
noncomputable def K2f:Data→Option (List Value)
 | .seq xs _=>some xs.toList
 | _=>none
noncomputable def k53:Data→Option FuncData
 | .func fd=>some fd
 | _=>none
noncomputable def K0h:FuncBody→Option (List Stmt)
 | .stmts b=>some b
 | _=>none
theorem k8E {d:Data} {xs:List Value} (e:K2f d=some xs):∃ ys n,d=.seq ys n∧ys.toList=xs:=by cases d <;> first | exact ⟨_,_,rfl,Option.some.inj e⟩ | injection e
theorem k6W {d:Data} {x:FuncData} (e:k53 d=some x):d=.func x:=by cases d <;> first | exact Option.some.inj e▸rfl | injection e
theorem k6Y {d:FuncBody} {x:List Stmt} (e:K0h d=some x):d=.stmts x:=by cases d <;> first | exact Option.some.inj e▸rfl | injection e
noncomputable def k5m (K:Frag) (d:Value) (dv:List V):Bool:=match dv with
 | []=>uN d
 | v::r=>r.isEmpty&&has (K0L d) fun t=>has (K.lookup t) fun o=>has (K2f o.data) fun us=>has (one us) fun u=>dIs v u
theorem k29 {K:Frag} {M:Model} {h:Heap} (X:K.In h) {d:Value} {dv:List V} (e:k5m K d dv=true):∃ od,Looks M h (seqItems? d) od∧VRs h dv (od.getD #[]).toList:=by
 cases dv with
 | nil=>rw[K0F e];exact ⟨none,Looks.of_pure rfl,.nil⟩
 | cons v r =>
  refine b2 e fun er e=>?_
  rw[List.isEmpty_iff.1 er]
  refine x11 (kS e) fun t ht e=>x11 (kS e) fun o ho e=>x11 (kS e) fun us hs e=>x11 (kS e) fun u hu e=>?_
  refine x21 (k8E hs) fun items n hd hi=>?_
  rw[k0r ht]
  refine ⟨some items,fun A Q E s k q=>wpAny_seqItems (k _ _ (X _ _ ho)) hd q,?_⟩
  show VRs h [v] items.toList
  rw[hi,KP hu];exact .cons (K0m e) .nil
noncomputable def zc (K:Frag) (f:Addr) (fn:IFn) (Γ:Ctx):Option (List Stmt):=(K.lookup f).bind fun o=>(k53 o.data).bind fun fd=>(K0h fd.body).bind fun body =>
 if (k3E fd.params&&fd.closure.isEmpty&&fd.globals==mainGlobals&&fd.builtins==builtinsNs&&fd.scope.kind==.function&&fd.scope.isCoroutine==false&&fd.scope.isGenerator==false&&fd.scope.names==Γ.names&&codeIn K fd.code fd.qualname &&
  (fd.params.args.map (·.arg))==Γ.vars.take fn.params&&fd.params.args.length==fn.params&&decide (Γ.vars.Nodup)&&yZ Γ&&k5m K fd.defaults fn.dflts&&decide (fn.dflts.length≤1∧fn.dflts.length≤fn.params) &&
  (match Γ.tab with | none=>true | some (c,_,q)=>fd.code==.ref c&&(fd.qualname++(".<locals>." : PySem.Str))++("<lambda>" : PySem.Str)==q))=true then some body else none
theorem zM {K:Frag} {f:Addr} {fn:IFn} {Γ:Ctx} {body:List Stmt} (h:zc K f fn Γ=some body) {G:Prop} (k:∀ (o:PySem.Obj) (fd:FuncData),K.lookup f=some o→o.data=.func fd→fd.body=.stmts body →
  fd.params=⟨[],fd.params.args,none,[],[],none,fd.params.defaults⟩→fd.closure=[]→fd.globals=mainGlobals→fd.builtins=builtinsNs→fd.scope.kind=.function→fd.scope.isCoroutine=false→fd.scope.isGenerator=false→fd.scope.names=Γ.names →
  codeIn K fd.code fd.qualname=true→fd.params.args.map (·.arg)=Γ.vars.take fn.params→fd.params.args.length=fn.params→Γ.vars.Nodup→yZ Γ=true→k5m K fd.defaults fn.dflts=true→fn.dflts.length≤1∧fn.dflts.length≤fn.params →
  (match Γ.tab with | none=>true | some (c,_,q)=>fd.code==.ref c&&(fd.qualname++(".<locals>." : PySem.Str))++("<lambda>" : PySem.Str)==q)=true→G):G :=
 ob h fun o ho h=>ob h fun fd hd h=>ob h fun b hb h=>oi h fun hck e=>b16 hck fun c0 c1 c2 c3 c4 c5 c6 c7 c8 c9 c10 c11 c12 c13 c15 c16 =>
  k o fd ho (k6W hd) ((k6Y hb).trans (congrArg _ e)) (Ud c0) (List.isEmpty_iff.1 c1) (eq_of_beq c2) (eq_of_beq c3) (eq_of_beq c4) (eq_of_beq c5) (eq_of_beq c6) (eq_of_beq c7) c8 (eq_of_beq c9) (eq_of_beq c10) (of_decide_eq_true c11) c12 c13 (of_decide_eq_true c15) c16
theorem uO {K:Frag} {f:Addr} {fn:IFn} {Γ:Ctx} {body:List Stmt} (h:zc K f fn Γ=some body):Γ.vars.Nodup :=
 zM h fun z9 z9 z9 z9 z9 z9 z9 z9 z9 z9 z9 z9 z9 z9 z9 z9 c z9 z9 z9 z9=>c
noncomputable def K1O (A:Around) (l:List Env) (n:Nat):Prop:=A.handled=none∧A.frames=some l∧A.depth+3*n+1≤recursionLimit∧A.units+60*n+20≤cLine
section
variable {prog:Program} {w:World} {b0:Heap} {os0:OsState} {call:jH} {init:Addr→Option Addr} {n:Nat} {Γ:Ctx} {env:Env} {ρ ρ':Loc} {σ σ' σ₀ σ₁ σ₂:Sto} {s s' s₀ s₁ s₂:Shared} {A:Around} {l:List Env} {h h':Heap}
theorem k1S {fd:FuncData} {f:Addr} {np k:Nat} {ys:List V} {us:List Value} (I:Inv prog w b0 os0 l σ s) {Af:Env→Around} (hR:∀ env,k8H (Af env) (env::l) n)
  (c2:fd.globals=mainGlobals) (c3:fd.builtins=builtinsNs) (c4:fd.scope.kind=.function) (c7:fd.scope.names=Γ.names) (c12:yZ Γ=true) (nd':(Γ.vars.take np).Nodup) (hnp:np≤Γ.vars.length) (rus:VRs s.heap ys us) (hul:us.length=np)
  (c16:∀ c P q,Γ.tab=some (c,P,q)→fd.code=.ref c∧(fd.qualname++(".<locals>." : PySem.Str))++("<lambda>" : PySem.Str)=q) {E:Value→Shared→Prop} {Q:Env→Shared→Prop}
  (kk:∀ env s₁,Wu b0 env→At prog w b0 os0 n Γ env (ys.map some++List.replicate k none) σ s₁ (Af env) (env::l)→kQ prog w b0 os0 l σ s σ s₁→(∀ b,k08 env b→s.heap.get? b=none)→Q env s₁) :
  wpAny (model prog w) A (newFunctionEnv fd.scope fd.globals [] ((Γ.vars.take np).zip us) (fd.qualname++(".<locals>." : PySem.Str)) (some f) fd.code none fd.builtins) Q E s:=by
 have hkind:∀ x∈(Γ.vars.take np).zip us,fd.scope.names.lookup x.1=some .local∨(fd.scope.names.lookup x.1=some .cell∧((cellsFrom (s.heap.objs.size+1) fd.scope.names []).lookup x.1).isSome=true):=by
  rintro ⟨x,u⟩ hx
  have hm:x∈Γ.vars:=(List.take_sublist _ _).subset (List.of_mem_zip hx).1
  have:=c12
  unfold yZ at this
  rw[List.all_eq_true] at this
  have:=this x hm
  simp only[Bool.or_eq_true,beq_iff_eq] at this
  refine er c7 ?_
  rcases this with q | q
  ·exact .inl q
  ·exact .inr ⟨q,Qg _ _ _ (.inl (jJ q))⟩
 refine wpAny_newFunctionEnv_cells c4 hkind fun env he s₁ x=>?_
 have hkeep:∀ b o,s.heap.get? b=some o→s₁.heap.get? b=some o:=x.toInCall.keep
 have hloc:env.locals=s.heap.objs.size:=by refine er he ?_;rfl
 have hfrm:env.frame=some env.locals:=by refine er he ?_;rfl
 have hcells:env.cells=cellsFrom (s.heap.objs.size+1) fd.scope.names []:=by refine er he ?_;rfl
 have hscope:env.scope=fd.scope:=by refine er he ?_;rfl
 have hkd:∀ y,env.kindOf y=Γ.names.lookup y:=fun y=>by unfold Env.kindOf;exact er hscope (er c7 rfl)
 have fresh:∀ z,s.heap.objs.size≤z→s.heap.get? z=none:=fun z hz=>Heap.get?_none_of_le hz
 have nL:s.heap.get? env.locals=none:=by refine er hloc ?_;exact Kx _
 have nC:∀ y c,env.cells.lookup y=some c→s.heap.get? c=none:=fun y c e=>fresh c (by
  have:=x.above y c (PySem.mem_of_lookup e)
  rw[hloc] at this;exact Nat.le_of_lt this)
 have nb:∀ z,s.heap.get? z=none→b0.get? z=none:=fun z q=>by
  cases e:b0.get? z with
  | none=>rfl
  | some o=>have:=I.stay z o e;rw[q] at this;injection this
 have nH:∀ z,s.heap.get? z=none→¬ σ.has z:=fun z q=>I.fresh q
 refine x20 x.toInCall.same fun hs1 tk es=>?_
 have G:=I.grow (s':=s₁) hkeep (by exact er es rfl) (by exact er es rfl)
 have hns:=x.toInCall.ns
 have FF:s₁.heap.FunFrames b0 (env::l):=Heap.FunFrames.cons (by refine er hscope (er c4 ?_);decide) hfrm hns (nb _ nL) G.frames
 have hfr:frs (env::l)=env.locals::frs l:=by simp[frs,List.filterMap_cons,hfrm]
 have I1:Inv prog w b0 os0 (env::l) σ s₁:=by
  refine ⟨G.own,G.stay,G.off,FF,fun b q m=>?_,fun b m=>?_,G.gens,G.os⟩
  ·rw[hfr,List.mem_cons] at m
   rcases m with rfl | m
   ·exact nH _ nL q
   ·exact G.offF b q m
  ·rw[hfr,List.mem_cons] at m
   rcases m with rfl | m
   ·refine x32 hns ?_;clear hns;intro o es ep h1 h2 z9
    exact ⟨o,es,ep,h1,h2⟩
   ·exact G.frD b m
 have F:Wu b0 env:=⟨hfrm,fun y z c e1 e2=>PySem.name_of_addr x.apart (PySem.mem_of_lookup e1) (PySem.mem_of_lookup e2),fun y c e=>Nat.ne_of_gt (x.above y c (PySem.mem_of_lookup e)),fun y c e=>nb _ (nC y c e)⟩
 have S:kQ prog w b0 os0 l σ s σ s₁:=kQ.grow I hkeep (by exact er es rfl) (by exact er es rfl)
 have TK:KW s.heap s₁.heap:=jM hkeep
 have hyl:ys.length=np:=by refine er (Eq.symm rus.length) ?_;refine er hul ?_;rfl
 have val:∀ (i:Nat) (y:PySem.Str) (av:V),Γ.vars[i]?=some y→(ys.map some++List.replicate k none)[i]?=some (some av) →
   ∃ u,(Γ.vars.take np)[i]?=some y∧us[i]?=some u∧VR s.heap av u:=fun i y av e1 e2=>by
  have hl3:(ys.map some).length=np:=by rw[List.length_map,hyl]
  by_cases hi:i<np
  ·rw[List.getElem?_append_left (by omega),List.getElem?_map] at e2
   cases q:ys[i]? with
   | none=>rw[q] at e2;injection e2
   | some z =>
    rw[q] at e2;cases e2
    refine x11 (rus.get q) fun u h1 h2=>?_
    exact ⟨u,by refine er (List.getElem?_take) (er (if_pos hi) ?_);exact e1,h1,h2⟩
  ·rw[List.getElem?_append_right (by omega)] at e2
   rw[List.getElem?_replicate] at e2
   split at e2 <;> cases e2
 have a:At prog w b0 os0 n Γ env (ys.map some++List.replicate k none) σ s₁ (Af env) (env::l):=by
  refine ⟨by exact er hscope (er c7 rfl),⟨by exact er hscope (er c4 rfl),by refine er he ?_;exact c2,by refine er he ?_;exact c3,⟨_,hns,fun i y av e1 e2 e3=>?_⟩,fun i y av e1 e2 e3=>?_,fun y hy=>?_,fun y hy=>?_,nH _ nL,fun y c e=>?_⟩,I1,hR env,fun c P q e=>?_⟩
  ·refine x12 (val i y av e1 e3) fun u h1 h2 h3=>?_
   exact ⟨u,k2c nd' h1 h2 e2,h3.keep TK⟩
  ·refine x12 (val i y av e1 e3) fun u h1 h2 h3=>?_
   have:(env.cells.lookup y).isSome=true:=by
    refine er hcells ?_;rw[hkd,← c7] at e2
    exact Qg _ _ _ (.inl (jJ e2))
   obtain ⟨c,hc⟩:=Option.isSome_iff_exists.mp this
   have hcl:=x.cell y c hc
   rw[k1H nd' h1 h2 e2] at hcl
   exact ⟨c,u,hc,hcl,h3.keep TK⟩
  ·have:=c12
   unfold yZ at this
   rw[List.all_eq_true] at this
   have:=this y hy
   simp only[Bool.or_eq_true,beq_iff_eq] at this
   refine er (hkd _) ?_;exact this
  ·rw[hkd,← c7] at hy
   have:=Qg (x:=y) fd.scope.names (s.heap.objs.size+1) [] (.inl (jJ hy))
   rw[← hcells] at this
   exact Option.isSome_iff_exists.mp this
  ·refine x11 (x.cell y c e) fun o h1 h2=>?_
   exact ⟨nH _ (nC y c e),o,_,h1,h2⟩
  ·obtain ⟨d1,d2⟩:=c16 c P q e
   exact ⟨by refine er he ?_;exact d1,by refine er he ?_;exact d2⟩
 exact kk env s₁ F a S fun b o=>o.elim (fun z=>z▸nL) fun ⟨y,e⟩=>nC y b e
theorem K0Z {x p d:Nat} (h1:x≤p) (h2:p≤x+d) (h3:d≤1) (h4:d≤p):(x=p∧d≤1∧d≤p)∨(x+1=p∧d=1):=by
 rcases Nat.eq_or_lt_of_le h1 with e | l
 ·exact .inl ⟨e,h3,h4⟩
 ·exact .inr ⟨Nat.le_antisymm l (Nat.le_trans h2 (Nat.add_le_add_left h3 x)),Nat.le_antisymm h3 (Nat.le_of_add_le_add_left (Nat.le_trans l h2))⟩
theorem k7b {x d p:Nat} (h1:x≤p) (h2:p≤x+d):x+(d-(d+x-p))=p:=by
 obtain ⟨q,rfl⟩:=Nat.exists_eq_add_of_le h1
 refine er (Nat.add_comm d x) (er (Nat.add_sub_add_left ..) ?_)
 exact congrArg _ (Nat.sub_sub_self (Nat.le_of_add_le_add_left h2))
theorem k1v (B:Ws Γ.K b0) (hlim:b0.NoLimit) {f:Addr} {fn:IFn} {body:List Stmt} (hh:zc Γ.K f fn Γ=some body) (I:Inv prog w b0 os0 l σ s) (hdp:A.depth<recursionLimit) {Af:Env→Around} (hR:∀ env,k8H (Af env) (env::l) n) {xs:List V} {vs:List Value} (r:VRs s.heap xs vs) (hb:fn.bind xs=some ρ) {R:Result→Shared→Prop}
  (k:∀ env s₁,Wu b0 env→At prog w b0 os0 n Γ env ρ σ s₁ (Af env) (env::l)→kQ prog w b0 os0 l σ s σ s₁→(∀ b,k08 env b→s.heap.get? b=none) →
   wpAny (model prog w) (A.deeper env) (execs body env) (fun f s'=>R (.ok (.ret (match f with | .ret v=>v | _=>.none))) s')
    (fun e s'=>wpAny (model prog w) (A.deeper env) (leaving env e) (fun z9 s''=>R (.error e) s'') (fun e' s''=>R (.error e') s'') s') s₁) :
  codeAny (model prog w) A (.call (.ref f) ⟨vs,[]⟩) R s:=by
 refine zM hh fun o fd ho hd hbody hparams c1 c2 c3 c4 c5 c6 c7 c8 c9 c10 c11 c12 c13 c15 c16=>?_
 have X:Γ.K.In s.heap:=I.KIn B.X
 refine x11 (k29 (M:=model prog w) X c13) fun od' hl1 hl2=>?_
 unfold IFn.bind at hb
 split at hb
 case isFalse=>injection hb
 rename_i hlen
 refine bc fun zg=>?_
 cases Option.some.inj hb
 have hdl:(od'.getD #[]).toList.length=fn.dflts.length:=hl2.length
 have hvl:vs.length=xs.length:=r.length
 refine zg ?_;clear zg
 have nd:(fd.params.args.map (·.arg)).Nodup:=by refine er c9 ?_;exact c11.sublist (List.take_sublist _ _)
 refine codeAny_call_function hdp (X _ _ ho) hd c5 c6 hbody (codeRec_of X c8) ?_
 refine k6U hparams nd hl1 rfl ?_ ?_
 ·refine er hdl (er hvl (er c10 ?_));exact K0Z hlen.1 hlen.2 c15.1 c15.2
 refine er c1 ?_
 generalize hus:vs++(od'.getD #[]).toList.drop ((od'.getD #[]).toList.length+vs.length-fd.params.args.length)=us
 have rus:VRs s.heap (xs++fn.dflts.drop (fn.dflts.length+xs.length-fn.params)) us:=by
  refine er (Eq.symm hus) (er hdl (er hvl (er c10 ?_)))
  exact r.append hl2.drop
 have hul:us.length=fn.params:=by
  refine er rus.length ?_
  refine er List.length_append ?_;refine er List.length_drop ?_
  exact k7b hlen.1 hlen.2
 rw[c9] at nd ⊢
 refine k1S (f:=f) (k:=fn.nvars-fn.params) (ys:=xs++fn.dflts.drop (fn.dflts.length+xs.length-fn.params)) I hR c2 c3 c4 c7 c12 nd ?_ rus hul (fun c P q e=>?_) fun env s₁ F a S fr=>?_
 ·have:=congrArg List.length c9
  rw[List.length_map,c10,List.length_take] at this;omega
 ·rw[e] at c16
  simp only[Bool.and_eq_true,beq_iff_eq] at c16
  exact c16
 ·exact ⟨hlim.keeps S.inv.stay,codeAny_func (k env s₁ F a S fr)⟩
end
end
section
set_option genCtorIdx false
set_option genInjectivity false
open PySem PySem.Calls PyProof.Rows PySem.W Builtin.ObjectAttr Builtin
noncomputable abbrev k6z (t:Addr):Array Value:=#[.ref t,.none,.none,.none,.bool false,.none]
section
variable {prog:Program} {w:World} {A:Around} {E:Value→Shared→Prop} {s:Shared} {K:Frag}
theorem k35 (X:K.In s.heap) {C e t:Addr} {u:Value} {nm:List Nat} {Q:Unit→Shared→Prop} (ck:k2Z K C=true) (hs:findIn K (.ref C) "__setattr__" = some (some (.builtin "object.__setattr__"))) (ht:findIn K (.ref C) (ke nm)=some none)
  (he:s.heap.get? e=some (jv C t))
  (h:∀ h' D tk',s.heap.get? D=none→(∀ b o,b≠e→s.heap.get? b=some o→h'.get? b=some o)→h'.get? e=some ⟨.ref C,some D,.fields (k6z t),#[]⟩→h'.DictOf (kB prog w) D [(.str nm,u)]→Q () { s with heap:=h',toks:=tk' }) :
  wpAny (model prog w) A (setAttr (.ref e) (ke nm) u) Q E s:=by
 refine bc fun zg=>?_
 refine Wc ck fun nm' q N bs bm sn sub ab col dd k0 k1 k2 k3 k5 ho T c1 c2=>?_
 have hC:=X _ _ ho
 have J:InstAt s.heap e (jv C t) C none:=⟨he,rfl,rfl,trivial⟩
 have SF:=PySem.F.store_object
 refine zg ?_;clear zg
 refine set_plain X J hs ?_
 have hm:Looks (model prog w) s.heap (mroOf (.ref C)) (.ref C::bm):=((Looks.ld (part:=none) hC).andThen .now).andThen .now
 have sub':Looks (model prog w) s.heap (isInstance (.ref e) (.type "object")) true:=by
  refine J.type.andThen ?_
  intro A Q E s k q
  obtain ⟨hh,g,d,tk,os⟩:=s
  refine wpAny_isSubtype_exc (k _ _ hC) ?_
  rw[show (Value.ref C::bm).contains (.type "object")=true by rw[List.contains_cons,jw T];rfl];exact q
 refine codeAny_call_builtin SF.slot.plain SF.entry (@check_slot (model prog w) _ _ { s with toks:=s.toks+1 } "object.__setattr__" "object" "__setattr__" (.ref e) [.str (ke nm) s.toks,u] [] _ SF.kind SF.split sub' (SF.args (.ref e) (.str (ke nm) s.toks) u) ?_)
 rw[osa_eq,refuse_eq]
 refine wpAny_bind (wpAny_bind (J.type.at (wpAny_bind (hm.at ?_))))
 rw[refuseLoop_ref];refine er (zH _ T) ?_
 refine wpAny_pure (wpAny_bind (J.type.at (wpAny_bind ((looks_findIn X ht).at (wpAny_bind (wpAny_pure ?_))))))
 show wpAny _ _ (storeInOwnDict (.ref e) (.ref C) (.str (ke nm) s.toks) (ke nm) u _) _ _ _
 have hx₁:(s.heap.push { cls:=.type "dict",data:=.dict #[] }).get? e=some (jv C t):=Heap.get?_push_of_some _ he
 have hxs:e≠s.heap.objs.size:=Nat.ne_of_lt (Heap.lt_size he)
 refine wpAny_bind (wpAny_pure (wpAny_bind (wpAny_bind (wpAny_loadPart he (wpAny_bind (wpAny_bind (wpAny_load hC (wpAny_pure ?_))))))))
 refine er (if_neg fun z=>Bool.noConfusion (show false=true from z)) ?_
 refine er (if_neg (by simp[typeHasDict])) ?_
 refine wpAny_bind (wpAny_alloc (wpAny_bind (wpAny_update hx₁ (wpAny_pure (a:=some s.heap.objs.size) ?_))))
 refine wpAny_bind (wpAny_pure (wpAny_bind ?_))
 generalize hH:((s.heap.push { cls:=.type "dict",data:=.dict #[] }).update e fun o=>{ o with dict:=some s.heap.objs.size })=H
 have hD:H.get? s.heap.objs.size=some { cls:=.type "dict",data:=.dict #[] }:=by
  refine er (Eq.symm hH) ?_;refine er (Heap.get?_update_other _ _ hxs) ?_;exact Heap.get?_push_size _ rfl
 have hE:H.get? e=some ⟨.ref C,some s.heap.objs.size,.fields (k6z t),#[]⟩:=by
  exact er (Eq.symm hH) (er (Heap.get?_update_self _ hx₁ rfl) rfl)
 have kH:∀ b o,b≠e→s.heap.get? b=some o→H.get? b=some o:=fun b o nb q=>by
  refine er (Eq.symm hH) ?_;refine er (Heap.get?_update_other _ _ (Ne.symm nb)) ?_;exact Heap.get?_push_of_some _ q
 have h4:H.DictOf (kB prog w) s.heap.objs.size []:=⟨_,#[],0,hD,⟨rfl,rfl,rfl⟩,rfl,fun e he=>by simp at he,.nil,by simp⟩
 unfold nsSet
 refine wpAny_bind (wpAny_bind (wpAny_askSetting (wpAny_pure (wpAny_bind (wpAny_mkText (wpAny_bind (wpAny_loadPart hD ?_)))))))
 refine x23 (k1r (n:=nm) (t:=s.toks+1) (v:=u) h4 hD) fun es ep ee hsz hk P=>?_
 dsimp only
 refine er (aRefKeyMayBeTheName_at _ _) ?_;rw[show (!(#[]:Array DictEntry).any (·.key.isStr (ke nm))&&(#[]:Array DictEntry).any (·.refKey))=false from by simp]
 refine wpAny_updatePart hD ?_
 have D':(H.update s.heap.objs.size (Obj.putName (ke nm) (PyData.keyHash w.params (ke nm)) (.str (ke nm) (s.toks+1)) u)).get? s.heap.objs.size=some { cls:=.type "dict",data:=.dict es ep }:=by
  exact er (Heap.get?_update_self _ hD (by refine er ee ?_;rfl)) (er ee rfl)
 refine wpAny_bind (wpAny_lookBehind D' (pastItsLine_dict (es:=es) (n:=ep) (by refine er sizeLine_eq ?_;simp at hsz;lia)) ?_)
 refine wpAny_pure ?_
 refine h _ s.heap.objs.size _ (Kx _) (fun b o nb q=>?_) ?_ ⟨_,es,ep,D',⟨rfl,rfl,rfl⟩,rfl,hk,P,by simp[stored]⟩
 ·have:b≠s.heap.objs.size:=Nat.ne_of_lt (Heap.lt_size q)
  show (H.update _ _).get? b=some o
  refine er (Heap.get?_update_other _ _ (Ne.symm this)) ?_;exact kH b o nb q
 ·show (H.update _ _).get? e=_
  refine er (Heap.get?_update_other _ _ (Ne.symm hxs)) ?_;exact hE
theorem k3c {env:Env} {C N:Addr} {nm q:Str} {bs bm:List Value} {sn:List Str} {sub:List Value} {ab:Bool} {col:Option Bool} {dd:Option Addr} {k0 k1 k2 k3 k5:Option Value} (T:JV bm=true) {x:Sem Value} {Q:Flow→Shared→Prop} (hh:A.handled=none)
  (h:wpAny (model prog w) A x (fun v s₁=>∃ e t D,v=.ref e∧s₁.heap.get? C=some (excClassObj nm q C N bs bm true sn sub ab col dd k0 k1 k2 k3 k5 "Exception.__new__") ∧
   s₁.heap.get? e=some ⟨.ref C,some D,.fields (k6z t),#[]⟩∧E (.ref e) s₁) E s) :
  wpAny (model prog w) A (raiseStmt env (some x) none) Q E s:=by
 have hcB:(Value.ref C::bm).contains (.type "BaseException")=true:=by refine er List.contains_cons (er (jw T) ?_);rfl
 unfold raiseStmt
 refine wpAny_bind (wpAny_mono h (fun v s₁ h₁=>?_) fun z9 z9 x=>x)
 refine x33 h₁ ?_;clear h₁;intro e t D zr3 hC he hE;subst zr3
 obtain ⟨hp,g,d,tk,os⟩:=s₁
 repeat (first | with_reducible exact wpAny_raiseNew_none hh hE | with_reducible refine wpAny_loadPart_at he ?_ | with_reducible refine wpAny_loadPart_at hC ?_ | (with_reducible refine wpAny_isSubtype_exc hC ?_;refine er hcB ?_) | wp_step)
end
end
section
set_option genCtorIdx false
set_option genInjectivity false
open PySem PySem.Calls PyProof.Rows PySem.W
noncomputable abbrev fnI:IFn:=⟨2,[.str []],2,[]⟩
noncomputable def K1c (K:Frag) (fd:FuncData):Ctx:=⟨K,fd.scope.names,fd.params.args.map (·.arg),fun z9=>none,none⟩
structure Sw where
 kExpr:Option (Expr):=none
 kAsg:Option (List Expr×Expr):=none
 kAug:Option (Expr×Operator×Expr):=none
 kIte:Option (Expr×List Stmt×List Stmt):=none
 kFor:Option (Expr×Expr×List Stmt×List Stmt):=none
 kWhile:Option (Expr×List Stmt×List Stmt):=none
 kRet:Option (Option Expr):=none
 kRaise:Option (Option Expr×Option Expr):=none
 kTry:Option (List Stmt×List ExceptHandler×List Stmt×List Stmt):=none
 kPass:Option (Unit):=none
noncomputable def sw:Stmt→Sw
 | .Expr e _=>{ kExpr:=some e }
 | .Assign a b _=>{ kAsg:=some (a,b) }
 | .AugAssign a o b _=>{ kAug:=some (a,o,b) }
 | .If a b c _=>{ kIte:=some (a,b,c) }
 | .For a b c d _=>{ kFor:=some (a,b,c,d) }
 | .While a b c _=>{ kWhile:=some (a,b,c) }
 | .Return a _=>{ kRet:=some a }
 | .Raise a b _=>{ kRaise:=some (a,b) }
 | .Try a b c d _=>{ kTry:=some (a,b,c,d) }
 | .Pass _=>{ kPass:=some () }
 | _=>{}
structure K2m (s:Stmt) (v:Sw):Prop where
 kExpr:Vs v.kExpr fun x=>∃ p,s=.Expr x p
 kAsg:Vs v.kAsg fun x=>∃ p,s=.Assign x.1 x.2 p
 kAug:Vs v.kAug fun x=>∃ p,s=.AugAssign x.1 x.2.1 x.2.2 p
 kIte:Vs v.kIte fun x=>∃ p,s=.If x.1 x.2.1 x.2.2 p
 kFor:Vs v.kFor fun x=>∃ p,s=.For x.1 x.2.1 x.2.2.1 x.2.2.2 p
 kWhile:Vs v.kWhile fun x=>∃ p,s=.While x.1 x.2.1 x.2.2 p
 kRet:Vs v.kRet fun x=>∃ p,s=.Return x p
 kRaise:Vs v.kRaise fun x=>∃ p,s=.Raise x.1 x.2 p
 kTry:Vs v.kTry fun x=>∃ p,s=.Try x.1 x.2.1 x.2.2.1 x.2.2.2 p
 kPass:Vs v.kPass fun x=>∃ p,s=.Pass p
theorem Jt (s:Stmt):K2m s {}:=⟨trivial,trivial,trivial,trivial,trivial,trivial,trivial,trivial,trivial,trivial⟩
theorem k5B (s:Stmt):K2m s (sw s):=by
 cases s with
 | Expr=>exact { Jt _ with kExpr:=⟨_,rfl⟩ }
 | Assign=>exact { Jt _ with kAsg:=⟨_,rfl⟩ }
 | AugAssign=>exact { Jt _ with kAug:=⟨_,rfl⟩ }
 | If=>exact { Jt _ with kIte:=⟨_,rfl⟩ }
 | For=>exact { Jt _ with kFor:=⟨_,rfl⟩ }
 | While=>exact { Jt _ with kWhile:=⟨_,rfl⟩ }
 | Return=>exact { Jt _ with kRet:=⟨_,rfl⟩ }
 | Raise=>exact { Jt _ with kRaise:=⟨_,rfl⟩ }
 | Try=>exact { Jt _ with kTry:=⟨_,rfl⟩ }
 | Pass=>exact { Jt _ with kPass:=⟨_,rfl⟩ }
 | _=>exact Jt _
noncomputable def K19 (s:Stmt):Option (List Expr×Expr):=(sw s).kAsg
theorem k8l {s:Stmt} {x:List Expr×Expr} (e:K19 s=some x):∃ p,s=.Assign x.1 x.2 p:=(k5B s).kAsg.get e
noncomputable def k0b (K:Frag) (fI:Addr):Bool:=has (K.lookup fI) fun o=>has (k53 o.data) fun fd=>has (zc K fI fnI (K1c K fd)) fun b=>has (one b) fun st=>has (K19 st) fun y=>has (one y.1) fun l=>has (uW l) fun t=>has (yq t.1) fun x=>has (yq y.2) fun z =>
 qX (K1c K fd) 0 x&&t.2.1==ke Wq&&qX (K1c K fd) 1 z
theorem k3h {K:Frag} {fI:Addr} (h:k0b K fI=true) {G:Prop} (k:∀ (ΓI:Ctx) (x1:PySem.Str) (p1 p2:Pos) (x3:PySem.Str) (p3 p4:Pos),ΓI.K=K→zc K fI fnI ΓI=some [.Assign [.Attribute (.Name x1 p1) (ke Wq) p2] (.Name x3 p3) p4]→qX ΓI 0 x1=true→qX ΓI 1 x3=true→G):G :=
 x11 (kS h) fun o z9 h=>x11 (kS h) fun fd z9 h=>x11 (kS h) fun b hb h=>x11 (kS h) fun st hs h=>x11 (kS h) fun y hy h=>x11 (kS h) fun l hl h=>x11 (kS h) fun t ht h=>x11 (kS h) fun x hx h=>x11 (kS h) fun z hz h=>b3 h fun h1 h2 h3=>by
  obtain ⟨p4,e4⟩:=k8l hy
  obtain ⟨p1,e1⟩:=jE hx
  obtain ⟨p3,e3⟩:=jE hz
  refine k (K1c K fd) x p1 t.2.2 z p3 p4 rfl ?_ h1 h3
  exact er hb (er (KP hs) (er e4 (er (KP hl) (er (qE ht) (er e1 (er e3 (er (eq_of_beq h2) rfl)))))))
noncomputable def k13 (K:Frag) (C:Addr):Bool:=k2Z K C&&(findIn K (.ref C) "__setattr__" == some (some (.builtin "object.__setattr__")))&&(findIn K (.ref C) (ke Wq)==some none) &&
 has (findIn K (.ref C) "__init__") fun o=>has o fun v=>has (K0L v) fun fI=>typeIn K (.ref fI)==some (.type "function")&&k0b K fI
theorem zX {K:Frag} {C:Addr} (h:k13 K C=true) {G:Prop} (k:∀ fI,k2Z K C=true→findIn K (.ref C) "__setattr__" = some (some (.builtin "object.__setattr__"))→findIn K (.ref C) (ke Wq)=some none→findIn K (.ref C) "__init__" = some (some (.ref fI))→typeIn K (.ref fI)=some (.type "function")→k0b K fI=true→G):G :=
 b4 h fun c1 c2 c3 c4=>x11 (kS c4) fun o ho e=>x11 (kS e) fun v hv e=>x11 (kS e) fun fI hf e=>b2 e fun c5 c6=>k fI c1 (eq_of_beq c2) (eq_of_beq c3) (by exact er ho (er hv (er (k0r hf) rfl))) (eq_of_beq c5) c6
section
variable {prog:Program} {w:World} {b0:Heap} {os0:OsState} {call:jH} {init:Addr→Option Addr} {n:Nat} {Γ:Ctx} {env:Env} {ρ ρ':Loc} {σ σ' σ₀ σ₁ σ₂:Sto} {s s' s₀ s₁ s₂:Shared} {A:Around} {l:List Env} {h h':Heap}
theorem k7I (C:Addr) (vs:List Value):(A.under (.builtin "type.__call__" ⟨.ref C::vs,[]⟩)).handled=A.handled∧(A.under (.builtin "type.__call__" ⟨.ref C::vs,[]⟩)).frames=A.frames ∧
  (A.under (.builtin "type.__call__" ⟨.ref C::vs,[]⟩)).depth≤A.depth+2∧(A.under (.builtin "type.__call__" ⟨.ref C::vs,[]⟩)).units≤A.units+40:=by
 refine ⟨rfl,?_,?_,?_⟩
 ·rfl
 ·show A.depth+_≤A.depth+2
  exact Nat.add_le_add_left (Nat.le_of_ble_eq_true rfl) _
 ·show A.units+_≤A.units+40
  exact Nat.add_le_add_left (Nat.le_of_ble_eq_true rfl) _
theorem K1g (e:Addr):∀ {xs:List V},xs.length≤1→fnI.bind (.ref e::xs)=some [some (.ref e),some (xs.headD (.str []))]
 | [],_=>rfl
 | [_],_=>rfl
theorem k5U {K:Frag} (B:Ws K b0) (hlim:b0.NoLimit) {C:Addr} (ck:k13 K C=true) (I:Inv prog w b0 os0 l σ s) (hd:A.depth+3≤recursionLimit) {xs:List V} {vs:List Value} (r:VRs s.heap xs vs) (hx:xs.length≤1) {Q:Value→Shared→Prop} {E:Value→Shared→Prop}
  (k:∀ e D t s',kQ prog w b0 os0 l σ s ((σ.upd D (.dict [(.str Wq,xs.headD (.str []))])).upd e (.inst C D)) s'→s.heap.get? e=none→¬ σ.has e→¬ σ.has D→e≠D→s'.heap.get? e=some ⟨.ref C,some D,.fields (k6z t),#[]⟩→Q (.ref e) s') :
  wpAny (model prog w) A (PySem.call (.ref C) vs) Q E s:=by
 refine zX ck fun fI c1 c2 c3 hi c5 c6=>?_
 refine k3h c6 fun ΓI x1 p1 p2 x3 p3 p4 zr7 hh n1 n3=>?_;subst zr7
 have hvl:=r.length
 obtain ⟨hp,g,d,t,os⟩:=s
 have X:ΓI.K.In hp:=I.KIn B.X
 refine wpAny_call (k6e X c1 hi c5 (by rw[sizeLine_eq];lia) ?_)
 generalize he:hp.objs.size+1=e
 have ht:hp.objs.size=e-1:=by lia
 have kg:∀ b o,hp.get? b=some o→((hp.push { cls:=.type "tuple",data:=.seq vs.toArray }).push (jv C hp.objs.size)).get? b=some o:=fun b o q=>Heap.get?_push_of_some _ (Heap.get?_push_of_some _ q)
 have hE:((hp.push { cls:=.type "tuple",data:=.seq vs.toArray }).push (jv C hp.objs.size)).get? e=some (jv C hp.objs.size):=by
  have:=Heap.get?_push_size (hp.push { cls:=.type "tuple",data:=.seq vs.toArray }) (o:=jv C hp.objs.size) rfl
  rw[Heap.size_push,he] at this;exact this
 have nE:hp.get? e=none:=Heap.get?_none_of_le (by lia)
 generalize hH:((hp.push { cls:=.type "tuple",data:=.seq vs.toArray }).push (jv C hp.objs.size))=H at kg hE ⊢
 have S0:kQ prog w b0 os0 l σ ⟨hp,g,d,t,os⟩ σ ⟨H,g,d,t,os⟩:=kQ.grow I kg
 have hbind:=K1g e hx
 refine x03 (k7I (A:=A) C vs) fun w1 w2 w3 w4=>?_
 refine k1v (n:=0) B hlim hh S0.inv (by lia) (Af:=fun env=>{ A with handled:=none,depth:=0,frames:=some (env::l),units:=0 }) (fun env=>⟨rfl,rfl,by show 0+3*0+3≤_;decide,by show 0+60*0+60≤_;decide⟩) (.cons (x:=.ref e) rfl (S0.vrs I r)) hbind fun env s₁ F a S1 fr=>?_
 have T1:=S0.trans S1
 have hE1:s₁.heap.get? e=some (jv C hp.objs.size):=(S1.ext e _ hE (I.fresh nE)).1 fun m=>by
  refine x31 (I.frD e m) fun o z9 z9 q z9=>?_;rw[nE] at q;injection q
 have X1:ΓI.K.In s₁.heap:=a.inv.KIn B.X
 refine wpAny_execs_cons (wpAny_Assign_stores ?_ (show swapsWith (.Name x3 p3) (some (.Attribute (.Name x1 p1) (ke Wq) p2)) p4.line env=pure false from rfl) rfl)
 refine qf a n3 (v:=xs.headD (.str [])) rfl fun u ru=>?_
 show wpAny _ _ (assign (.Attribute (.Name x1 p1) (ke Wq) p2) env u) _ _ _
 rw[arm_assign_Attribute]
 refine wpAny_bind (wpAny_holding (qf a n1 (v:=.ref e) rfl fun v rv=>?_))
 change _=_ at rv;subst rv
 refine wpAny_bind (wpAny_standAt (wpAny_bind (wpAny_holding ?_)))
 refine k35 X1 c1 c2 c3 hE1 fun h' D tk' nD kk he' hD=>wpAny_release ?_
 refine wpAny_execs_nil ⟨rfl,?_⟩
 have neD:e≠D:=fun z=>by rw[← z,hE1] at nD;injection nD
 have nDp:hp.get? D=none:=T1.back nD
 have frE:∀ z,hp.get? z=none→z∉frs l:=fun z q m=>by refine x31 (I.frD z m) fun o z9 z9 q' z9=>?_;rw[q] at q';injection q'
 have nsE:∀ o,s₁.heap.get? e=some o→¬ JS o:=fun o q=>by
  rw[hE1] at q;injection q with q;subst q
  rintro (⟨_,_,z⟩ | ⟨z,_⟩ | ⟨z,_⟩) <;> cases z
 have T2:=kQ.poke I T1 (tk:=tk') nE (I.fresh nE) (frE e nE) nsE kk
 have T3:=kQ.adopt I T2 nDp (I.fresh nDp) (frE D nDp) (c:=.dict [(.str Wq,xs.headD (.str []))]) ⟨_,hD,.str Wq,u,[],rfl,rfl,ru.keep (jl nsE kk),rfl⟩
 have T4:=kQ.adopt I T3 nE (fun z=>by
  have:Sto.get (σ.upd D (.dict [(.str Wq,xs.headD (.str []))])) e=σ.get e:=Sto.get_upd_ne σ _ (Ne.symm neD)
  rw[Sto.has,this] at z;exact I.fresh nE z) (frE e nE) (c:=.inst C D) ⟨_,_,he',rfl,(fun xs n z=>by injection z),(fun v z=>by injection z)⟩
 exact k e D _ _ T4 nE (I.fresh nE) (I.fresh nDp) neD he'
theorem k6r (B:Ws Γ.K b0) (hlim:b0.NoLimit) {C:Addr} {as:List IE} {x:PySem.Str} {es:List Expr} {p p' p'':Pos} (hx:QU Γ (.ref C) x=true) (hk:keepIn Γ.K (.ref C)=true) (hc:k13 Γ.K C=true) (hl:as.length≤1) (hs:es.all KE=true)
  (h:SEs prog w b0 os0 call init n Γ as es):SX prog w b0 os0 call init n Γ (.raise C as) (.Raise (some (.Call (.Name x p) es [] p')) none p''):=by
 intro env ρ σ s A l Q X F a q
 refine Wc (zX hc fun z9 c z9 z9 z9 z9 z9=>c) fun nm qn N bs bm sn sub ab col dd k0 k1 k2 k3 k5 ho T z9 z9=>?_
 rw[arm_exec_Raise]
 refine wpAny_bind (wpAny_standAt ?_)
 show wpAny _ _ (raiseStmt env (some (do let v ← eval (.Call (.Name x p) es [] p') env;standAt p'';pure v)) none) _ _ _
 refine k3c (C:=C) (N:=N) (nm:=nm) (q:=qn) (bs:=bs) (sn:=sn) (sub:=sub) (ab:=ab) (col:=col) (dd:=dd) (k0:=k0) (k1:=k1) (k2:=k2) (k3:=k3) (k5:=k5) T a.room.1 (wpAny_bind ?_)
 refine Call_ (qi B a hx fun u z9 hu=>?_)
 rw[hu C rfl]
 refine k62 hs hk (wpAny_mono (h a q) (fun vs s₁ z=>?_) fun z9 z9 z=>PXS.ofPX F a z)
 refine x23 z ?_;clear z;intro xs σ₁ S₁ r₁ hlen q₁
 have a₁:=a.step S₁
 refine ⟨a₁.inv.KIn B.X,?_⟩
 refine k5U B hlim hc a₁.inv (by have:=a.room.2.2.1;lia) r₁ (by lia) fun e D t s' T' nE h1 h2 h3 he=>?_
 refine wpAny_bind (wpAny_standAt (wpAny_pure ?_))
 refine ⟨e,t,D,rfl,T'.inv.KIn B.X _ _ ho,he,?_⟩
 have S:=S₁.trans T'
 exact ⟨ρ,e,_,rfl,.ofStep F S,a.step S,⟨C,D,_,_,S₁.back nE,by simp,he,.inl rfl⟩,q₁ e D h1 h2 h3⟩
end
noncomputable def k4F (K:Frag) (C:Addr) (name:PySem.Str):Bool:=k2Z K C&&(findIn K (.ref C) "__getattribute__" == some (some (.builtin "BaseException.__getattribute__")))&&(findIn K (.ref C) "__getattr__" == some none)&&hasDictIn K C&&has (findIn K (.ref C) name) (noGet K)
section
variable {prog:Program} {w:World} {b0:Heap} {os0:OsState} {σ:Sto} {s:Shared} {A:Around} {l:List Env} {E:Value→Shared→Prop}
theorem uc {K:Frag} (X:K.In b0) (I:Inv prog w b0 os0 l σ s) {C:Addr} {name:List Nat} {x:V} {u:Value} {Q:QV} {expr:Bool} (ck:k4F K C (ke name)=true) (rx:VR s.heap x u) (q:wA C name x σ Q) :
  wpAny (model prog w) A (getAttr u (ke name) expr) (PV prog w b0 os0 l σ s Q) E s :=
 k3U I rx q fun a ox od v v' eu J hl rv q=>b5 ck fun c0 c1 c2 c3 c4=>hs c4 fun attr hf c4=>Wc c0 fun nm' qn N bs bm sn sub ab col dd k0 k1 k2 k3 k5 ho T z9 z9=>by
 refine er eu ?_
 have FB:=PySem.F.attrBase_Exception
 have XX:=I.KIn X
 have L0:=J.type (M:=model prog w)
 have L1:=looks_find (M:=model prog w) XX J (findObj_own c3 hf c4 hl)
 have Lis:Looks (model prog w) s.heap (isInstance (.ref a) (.type "BaseException")) true:=by
  refine L0.andThen ?_
  intro A Q E s k q
  obtain ⟨hh,g,d,tk,os⟩:=s
  refine wpAny_isSubtype_exc (k _ _ (XX _ _ ho)) ?_
  refine er (show (Value.ref C::bm).contains (.type "BaseException")=true by rw[List.contains_cons,jw T];rfl) ?_;exact q
 unfold getAttr getAttrBy
 refine wpAny_bind (wpAny_mkText (wpAny_holding (wpAny_bind (L0.at (wpAny_bind ((looks_findIn XX (eq_of_beq c1)).at ?_))))))
 have hne:(Value.builtin "BaseException.__getattribute__" == Value.builtin "object.__getattribute__")=false:=by decide +kernel
 show wpAny _ _ (if (onTheHeap (Value.ref C)&&Value.builtin "BaseException.__getattribute__" == Value.builtin "object.__getattribute__")=true then _ else _) _ _ _
 refine er hne ?_;refine er (Bool.and_false _) ?_;rw[if_neg (by decide)]
 unfold getAttrByItsOwn hookBefore
 rw[if_pos (show onTheHeap (Value.ref C)=true from rfl)]
 refine wpAny_bind ((looks_findIn XX (eq_of_beq c2)).at (wpAny_bind (wpAny_attempt (wpAny_holding ?_))))
 unfold callGetattribute
 refine er (show (expr&&onTheHeap (Value.builtin "BaseException.__getattribute__"))=false by cases expr <;> rfl) ?_
 simp only[Bool.false_eq_true,if_false]
 unfold boundAndCalled
 refine er (FB.ga.bind _) ?_
 refine wpAny_bind (wpAny_pure ?_)
 show wpAny _ _ (call (.builtin "BaseException.__getattribute__") [.ref a,.str (ke name) s.toks]) _ _ _
 refine wpAny_call (codeAny_call_builtin FB.ga.plain PySem.F.entry_bexc_ga ?_)
 have hk:builtinKind "BaseException.__getattribute__" = some .slot:=by decide +kernel
 have hsp:splitId "BaseException.__getattribute__" = some ("BaseException","__getattribute__"):=by decide +kernel
 refine @check_slot (model prog w) _ _ { s with toks:=s.toks+1 } "BaseException.__getattribute__" "BaseException" "__getattribute__" (.ref a) [.str (ke name) s.toks] [] _ hk hsp Lis (PySem.F.args_bexc_ga _ _) ?_
 unfold Builtin.«object.__getattribute__»
 refine wpAny_bind (wpAny_pure (wpAny_bind (wpAny_pure (wpAny_bind (L0.at (wpAny_bind (L1.at ?_)))))))
 refine wpAny_pure ?_
 show wpAny _ _ (handedOut v') _ _ _
 refine er (handedOut_of rv.handed) ?_
 exact wpAny_pure (PV.same I rv q)
end
theorem k5V {s:Stmt} {p:Option Expr→Bool} (h:has (sw s).kRet p=true):∃ x:Option Expr,(∃ p,s=.Return x p)∧p x=true:=by
 refine x11 (kS h) fun x hx h=>?_
 exact ⟨x,(k5B s).kRet.get hx,h⟩
theorem k4j {s:Stmt} {p:Unit→Bool} (h:has (sw s).kPass p=true):∃ x:Unit,(∃ p,s=.Pass p)∧p x=true:=by
 refine x11 (kS h) fun x hx h=>?_
 exact ⟨x,(k5B s).kPass.get hx,h⟩
noncomputable def K17:IE→Option Nat
 | .loc i=>some i
 | _=>none
theorem k82 {e:IE} {i:Nat} (h:K17 e=some i):e=.loc i:=by cases e <;> first | exact congrArg _ (Option.some.inj h) | injection h
noncomputable def ckH1 (Γ:Ctx) (h:IS) (st:Stmt):Bool:=match h with
 | .pass=>has (sw st).kPass fun z9=>true
 | .ret ie=>has (sw st).kRet fun o=>has o fun e=>(match ie with
  | .cbool b=>k9y e==some b
  | .attr C nm o=>has (uW e) fun x=>has (yq x.1) fun z=>x.2.1==ke nm&&k4F Γ.K C (ke nm)&&has (K17 o) fun i=>qX Γ i z
  | _=>false)
 | _=>false
noncomputable def ckH (Γ:Ctx) (hs:List IS) (sts:List Stmt):Bool:=has (one hs) fun h=>has (one sts) fun st=>ckH1 Γ h st
section
variable {prog:Program} {w:World} {b0:Heap} {os0:OsState} {call:jH} {init:Addr→Option Addr} {n:Nat} {Γ:Ctx} {env:Env} {ρ ρ':Loc} {σ σ' σ₀ σ₁ σ₂:Sto} {s s' s₀ s₁ s₂:Shared} {A:Around} {l:List Env} {h h':Heap}
theorem k9q {o:Option (Option V)} {P:V→Prop} (q:match o with | some (some v)=>P v | _=>False):∃ v,o=some (some v)∧P v:=by
 rcases o with _ | _ | v
 ·exact q.elim
 ·exact q.elim
 ·exact ⟨v,rfl,q⟩
theorem Zk (F:Wu b0 env) (a:At prog w b0 os0 n Γ env ρ σ s A (env::l)) {A':Around} (st0:b0.StaysIn s₀.heap) (T:Kc prog w b0 os0 env l σ₀ s₀ σ s) {e:Addr} (x:Fly s₀.heap σ e s.heap) {Q:Unit→Shared→Prop} {E:Value→Shared→Prop}
  (k:∀ s',Kc prog w b0 os0 env l σ₀ s₀ σ s'→At prog w b0 os0 n Γ env ρ σ s' A (env::l)→Fly s₀.heap σ e s'.heap→Q () s'):wpAny (model prog w) A' (setFlight (.ref e) none) Q E s:=by
 refine x43 x fun C d vs sl e0 eσ he hc=>?_
 unfold setFlight
 rcases hc with h1 | hc
 ·refine wpAny_bind (wpAny_field he rfl h1 ?_)
  refine er (if_neg (by decide)) ?_
  exact wpAny_pure (k s T a x)
 ·refine x37 hc fun t ot ts h1 t0 te th tg tc td t3=>wpAny_bind (wpAny_field he rfl h1 ?_)
  refine er (if_pos (show (Value.ref t != Value.none)=true from rfl)) ?_
  have hsz:=(Array.getElem?_eq_some_iff.mp t3).1
  refine wpAny_setField tg td hsz ?_
  have hT:=Heap.get?_update_self (Obj.mapFields (·.setIfInBounds 3 ((none:Option Addr).elim Value.none fun f=>rawInt f))) tg (Obj.isFreed_of_fields (Obj.data_mapFields td _))
  have other:∀ b,b≠t→(s.heap.update t (Obj.mapFields (·.setIfInBounds 3 ((none:Option Addr).elim Value.none fun f=>rawInt f)))).get? b=s.heap.get? b:=fun b hb=>Heap.get?_update_other _ _ (Ne.symm hb)
  generalize s.heap.update t (Obj.mapFields (·.setIfInBounds 3 ((none:Option Addr).elim Value.none fun f=>rawInt f)))=H at hT other ⊢
  have he':=(other e (Ne.symm te)).trans he
  obtain ⟨S',a'⟩:=At.turn F a st0 T (tb:=some t) (tk:=s.toks) e0 eσ (fun t' z=>by obtain rfl:=Option.some.inj z;exact ⟨t0,th,ot,ts,tg,tc,td⟩) (fun b o nb nt q=>have z:=(other b fun z=>nt (by exact er z rfl)).trans q;⟨fun z9=>z,o.slots,z⟩) he'
  exact k _ S' a' ⟨C,d,vs,sl,e0,eσ,he',.inr ⟨t,_,_,h1,t0,te,th,hT,(Obj.cls_mapFields _ _).trans tc,Obj.data_mapFields td _,by simp[hsz]⟩⟩
variable (prog w b0 os0 call init n) in
noncomputable def SH (Γ:Ctx) (hs:List IS) (sts:List Stmt):Prop:=∀ {env ρ σ s A A' l Q E},Wu b0 env→At prog w b0 os0 n Γ env ρ σ s A (env::l)→exs call init hs ρ σ Q (fun z9 z9 z9=>False)→wpAny (model prog w) A' (execs sts env) (PS prog w b0 os0 n Γ env A l σ s Q) E s
theorem uQ (B:Ws Γ.K b0) {ih:List IS} {sts:List Stmt} (ck:ckH Γ ih sts=true):SH prog w b0 os0 call init n Γ ih sts :=
 fun {env ρ σ s A A' l Q E} F a q=>hs ck fun h h1 g=>hs g fun st h2 g=>by
 refine er (KP h2) ?_
 rw[KP h1] at q
 cases h with
 | pass=>exact x11 (k4j g) fun x e z9=>e.elim fun p e=>by refine er e ?_;exact wpAny_execs_cons (wpAny_Pass (wpAny_execs_nil (PS.next (.refl a.inv) a q)))
 | ret ie =>
  refine x11 (k5V g) fun o e g=>e.elim fun p e=>hs g fun ex he ck=>?_
  refine er e ?_;refine er he ?_
  cases ie with
  | cbool b=>exact x20 (k1z (eq_of_beq ck)) fun k p' e=>by refine er e ?_;exact wpAny_execs_cons (wpAny_Return_some fun z9 z9 z9=>PS.ret (.refl a.inv) a vrO q)
  | attr C nm o =>
   refine hs ck fun x hx g1=>hs g1 fun y hy g2=>b3 g2 fun c1 c2 c3=>hs c3 fun i hi c3=>(jE hy).elim fun py e=>?_
   refine er (qE hx) ?_;rw[eq_of_beq c1,e]
   rw[k82 hi] at q
   replace q:(match ρ[i]? with | some (some v)=>wA C nm v σ (fun v σ=>Q (some v) ρ σ) | _=>False):=q
   refine x11 (k9q q) fun v hv q=>?_
   refine wpAny_execs_cons (wpAny_Return_some ?_)
   rw[arm_eval_Attribute,k0G rfl]
   refine wpAny_bind (qf a c3 hv fun u ru=>wpAny_bind (wpAny_standAt (wpAny_bind (wpAny_holding (wpAny_mono (uc B.X a.inv c2 ru q) (fun u' s₂ z=>?_) fun z9 z9 z=>z)))))
   exact x22 z fun v' σ₂ S₂ r₂ q₂=>wpAny_bind (wpAny_letTemporaryGo (wpAny_pure (PS.ret (.ofStep F S₂) (a.step S₂) r₂ q₂)))
  | _=>injection ck
 | _=>injection g
theorem k1P {ρ:Loc} {i j:Nat} {av:V} {G:Prop} (e:(ρ.set i none)[j]?=some (some av)) (k:i≠j→ρ[j]?=some (some av)→G):G:=by
 rw[List.getElem?_set] at e
 by_cases hj:i=j
 ·subst hj
  rw[if_pos rfl] at e
  split at e <;> cases e
 ·rw[if_neg hj] at e;exact k hj e
theorem k4c {o:Option V} {f:Flow} {Q:QS} (fr:k6M h o f) (K:KW h s'.heap) (S:Kc prog w b0 os0 env l σ s σ' s') (a:At prog w b0 os0 n Γ env ρ' σ' s' A (env::l)) (q:Q o ρ' σ'):PS prog w b0 os0 n Γ env A l σ s Q f s':=by
 cases o with
 | none=>cases fr;exact PS.next S a q
 | some v=>exact x11 fr fun u e r=>e▸PS.ret S a (r.keep K) q
theorem k9Y (B:Ws Γ.K b0) (nd:Γ.vars.Nodup) {C:Addr} {x:PySem.Str} {px ph pos:Pos} {body:List IS} {hs:List IS} {as:Option Nat} {nm:Option PySem.Str} {bs hb:List Stmt} (hx:QU Γ (.ref C) x=true) (hm:exmOne Γ.K (.ref C) (.ref C)=some true)
  (hnm:match as,nm with | none,none=>True | some i,some y=>Γ.vars[i]?=some y∧Γ.names.lookup y=some .local | _,_=>False) (hB:SXs prog w b0 os0 call init n Γ body bs) (hH:ckH Γ hs hb=true) :
  SX prog w b0 os0 call init n Γ (.tryE body C as hs) (.Try bs [.ExceptHandler (some (.Name x px)) nm hb ph] [] [] pos):=by
 intro env ρ σ s A l Q X F a q
 obtain ⟨b₀,rfl⟩:∃ b₀,hb=[b₀]:=by
  refine x11 (kS hH) fun h h1 g=>?_
  refine x11 (kS g) fun st h2 g'=>?_
  exact ⟨st,KP h2⟩
 refine wpAny_Try_except (wpAny_mono (hB F a q) (fun f s₁ z=>?_) fun v s₁ z=>?_)
 ·refine x33 z ?_;clear z;intro o ρ₁ σ₁ S a₁ fr q₁
  cases o with
  | none =>
   simp only[k6M] at fr;subst fr
   exact wpAny_execs_nil (PS.next S a₁ q₁)
  | some v =>
   refine bc fun zg=>?_
   refine x11 fr ?_;clear fr;intro u zr1 r;subst zr1
   refine zg ?_;clear zg
   exact PS.ret S a₁ r q₁
 ·refine bc fun zg=>?_
  refine x35 z ?_;clear z;intro ρ₁ e σ₁ zr3 S₁ a₁ fl₁ zn7 q₁;subst zr3;obtain ⟨d,hd⟩:=zn7
  refine zg ?_;clear zg
  refine k1t F a₁ a₁.room.2.1 a.inv.stay S₁ fl₁ fun s₂ S₂ a₂ fl₂=>?_
  refine wpAny_handleBy_cons (codeAny_handlers_test (qi B a₂ hx fun u z9 hu=>?_)) (by intro q;injection q)
  refine er (hu C rfl) ?_
  have fl₂':=fl₂
  refine x43 fl₂' ?_;clear fl₂';intro C' d' vs sl e0 eσ he z9
  rw[hd] at eσ;cases eσ
  have LT:Looks (model prog w) s₂.heap (typeOf (.ref e)) (.ref C):=(Looks.ld he).andThen .now
  refine (exm_one (a₂.inv.KIn B.X) LT hm).here ?_
  simp only[if_true]
  cases as with
  | none =>
   cases nm with
   | some _=>exact hnm.elim
   | none =>
    refine codeAny_handlers_suite (Zk F a₂ a.inv.stay S₂ fl₂ fun s₃ S₃ a₃ fl₃=>?_)
    exact wpAny_mono (uQ (E:=fun z9 z9=>False) B hH F a₃ q₁) (fun f s₄ z=>z.back S₃) fun z9 z9 z=>z.elim
  | some i =>
   cases nm with
   | none=>exact hnm.elim
   | some y =>
    refine bc fun zg=>?_
    obtain ⟨hy,hyl⟩:=hnm
    refine zg ?_;clear zg
    refine codeAny_handlers_suite_as (Zk F a₂ a.inv.stay S₂ fl₂ fun s₃ S₃ a₃ fl₃=>?_)
    refine Jx F a₃ nd hy (v:=.ref e) rfl fun s₄ S₄ a₄=>?_
    refine wpAny_mono (uQ (E:=fun z9 z9=>False) B hH F a₄ q₁) (fun f s₅ z=>?_) fun z9 z9 z=>z.elim
    refine bc fun zg=>?_
    obtain ⟨o,ρ₅,σ₅,S₅,a₅,fr₅,q₅⟩:=z
    refine x11 a₅.env_.locs fun m hn hlm=>?_
    have hk:env.kindOf y=some .local:=(a₅.kind (x:=y)).trans hyl
    refine zg ?_;clear zg
    refine wpAny_nameGoes_keeps hk hn (by refine er a₅.env_.kind ?_;rfl) fun h' v hn' sb=>?_
    have Z:=a₅.setL F (ρ':=ρ₅.set i none) (tk:=s₅.toks+1) hn' sb (fun j z av e1 e2 e3 =>
     k1P e3 fun hj e3=>x11 (hlm j z av e1 e2 e3) fun v' h1 h2 =>
      ⟨v',(if_neg fun zz:z=y=>hj (ZI nd hy (zz▸e1))).trans h1,h2⟩) (fun j z av e1 e2 e3=>k1P e3 fun z9 e=>e)
    exact k4c fr₅ (Z.1.tupKeep F a₅) (((S₃.trans S₄).trans S₅).trans Z.1) Z.2 q₅
end
section
noncomputable def hv:ExceptHandler→Option Expr×Option PySem.Str×List Stmt
 | .ExceptHandler t n b _=>(t,n,b)
noncomputable def K2c (Γ:Ctx) (as:Option Nat) (nm:Option PySem.Str):Bool:=match as with
 | none=>nm.isNone
 | some i=>has nm fun y=>Γ.vars[i]?==some y&&Γ.names.lookup y==some .local
noncomputable def k7X (Γ:Ctx) (is:List Nat) (ts:List Expr) (e:Expr):Bool:=has (Wd Γ.names ts e) fun r=>(match r with
 | none=>true
 | some ns=>is.map (Γ.vars[·]?)==ns.map some&&(is.length==2||is.length==3))
noncomputable def k1K:IE→Option (List Nat×IT×Option IE×IE)
 | .comp a b c d=>some (a,b,c,d)
 | _=>none
theorem k5l (ie:IE):Vs (k1K ie) fun x=>ie=.comp x.1 x.2.1 x.2.2.1 x.2.2.2:=by cases ie <;> first | exact trivial | exact rfl
noncomputable def K00:IE→Bool
 | .cnone=>true
 | _=>false
theorem k7e {ie:IE} (h:K00 ie=true):ie=.cnone:=by
 cases ie <;> first | rfl | exact Bool.noConfusion h
mutual
noncomputable def ckS:Nat→Ctx→IS→Stmt→Bool
 | 0,_,_,_=>false
 | k+1,Γ,is,st=>match is with
  | .expr ie=>has (sw st).kExpr fun e=>jW e&&ckE k Γ ie e
  | .asg i ie=>has (sw st).kAsg fun x=>has (one x.1) fun t=>has (K0g t) fun y=>Γ.vars[i]?==some y.1&&(match k1K ie with
   | some c=>k2W x.2 fun el z iter ifs sc pos=>Γ.names.lookup y.1==some .local&&y.2.line==pos.line && !(sc.names.any fun (m,k)=>m==y.1&&(k==.local||k==.cell))&&has (qe Γ c.1) fun xs =>
     wt Γ.names z sc&&(xs.all fun y=>(jr Γ.names sc).lookup y==some .cell)&&ckI k Γ c.2.1 iter&&ckC k (jZ Γ z xs sc) c.2.2.1 ifs&&ckE k (jZ Γ z xs sc) c.2.2.2 el
   | none=>jW x.2&&ckE k Γ ie x.2)
  | .asgT is ie=>has (sw st).kAsg fun x=>has (one x.1) fun t=>has (k90 t) fun ts=>jW x.2&&k9j Γ is ts&&decide is.Nodup&&k7X Γ is ts x.2&&ckE k Γ ie x.2
  | .setA C nm io ie=>has (sw st).kAsg fun x=>has (one x.1) fun t=>has (uW t) fun y=>y.2.1==ke nm&&k3N Γ.K C (ke nm)&&jW x.2&&ckE k Γ io y.1&&ckE k Γ ie x.2
  | .setI io ii ie=>has (sw st).kAsg fun x=>has (one x.1) fun t=>has (k8Y t) fun y=>jW x.2&&ckE k Γ io y.1&&ckE k Γ ii y.2&&ckE k Γ ie x.2
  | .augA C nm op io ie=>has (sw st).kAug fun x=>has (uW x.1) fun y=>op==.sub&&x.2.1==.Sub&&y.2.1==ke nm&&yb Γ.K C (ke nm)&&k3N Γ.K C (ke nm)&&ckE k Γ io y.1&&ckE k Γ ie x.2.2
  | .augI op io ii ie=>has (sw st).kAug fun x=>has (k8Y x.1) fun y=>op==.sub&&x.2.1==.Sub&&yQ y.2&&ckE k Γ io y.1&&ckE k Γ ii y.2&&ckE k Γ ie x.2.2
  | .ite c t f=>has (sw st).kIte fun x=>Qs c&&ckE k Γ c x.1&&k4T k Γ t x.2.1&&k4T k Γ f x.2.2
  | .for1 i it ib=>has (sw st).kFor fun x=>x.2.2.2.isEmpty&&has (yq x.1) fun y=>Γ.vars[i]?==some y&&ckI k Γ it x.2.1&&k4T k Γ ib x.2.2.1
  | .forT is it ib=>has (sw st).kFor fun x=>x.2.2.2.isEmpty&&has (k90 x.1) fun ts=>k9j Γ is ts&&ckI k Γ it x.2.1&&k4T k Γ ib x.2.2.1
  | .while c ib=>has (sw st).kWhile fun x=>x.2.2.isEmpty&&Qs c&&ckE k Γ c x.1&&k4T k Γ ib x.2.1
  | .ret ie=>has (sw st).kRet fun o=>(match o with | some e=>ckE k Γ ie e | none=>K00 ie)
  | .raise C as=>has (sw st).kRaise fun x=>x.2.isNone&&has x.1 fun e=>Uf e fun y es=>QU Γ (.ref C) y&&keepIn Γ.K (.ref C)&&k13 Γ.K C&&decide (as.length≤1)&&k2H k Γ as es
  | .tryE body C as hs=>has (sw st).kTry fun x=>x.2.2.1.isEmpty&&x.2.2.2.isEmpty&&has (one x.2.1) fun h=>has (hv h).1 fun t=>has (yq t) fun y =>
    QU Γ (.ref C) y&&exmOne Γ.K (.ref C) (.ref C)==some true&&K2c Γ as (hv h).2.1&&k4T k Γ body x.1&&ckH Γ hs (hv h).2.2
  | .pass=>has (sw st).kPass fun z9=>true
noncomputable def k4T:Nat→Ctx→List IS→List Stmt→Bool
 | 0,_,_,_=>false
 | k+1,Γ,iss,sts=>match iss with
  | []=>sts.isEmpty
  | is::iss=>match sts with
   | []=>false
   | st::sts=>ckS k Γ is st&&k4T k Γ iss sts
end
section
variable {prog:Program} {w:World} {b0:Heap} {os0:OsState} {call:jH} {init:Addr→Option Addr} {n:Nat} {Γ:Ctx}
theorem k2F {is:List Nat} {ts:List Expr} {e:Expr} (h:k7X Γ is ts e=true):∃ r,Wd Γ.names ts e=some r∧∀ ns,r=some ns→is.map (Γ.vars[·]?)=ns.map some∧(is.length=2∨is.length=3):=by
 refine x11 (kS h) fun r h1 h=>?_
 refine ⟨r,h1,fun ns e=>?_⟩
 subst e
 exact b2 h fun h2 h3=>⟨eq_of_beq h2,((Bool.or_eq_true_iff ..).1 h3).imp eq_of_beq eq_of_beq⟩
theorem k6g {as:Option Nat} {nm:Option PySem.Str}:K2c Γ as nm=true→match as,nm with | none,none=>True | some i,some y=>Γ.vars[i]?=some y∧Γ.names.lookup y=some .local | _,_=>False:=by
 intro h
 cases as with
 | none=>cases (Jl h:nm=none);trivial
 | some i =>
  refine x11 (kS h) fun y' hy' g'=>?_
  cases (hy':nm=_)
  exact b2 g' fun g1 g2=>⟨eq_of_beq g1,eq_of_beq g2⟩
theorem k8c (B:Ws Γ.K b0) (nd:Γ.vars.Nodup) (hS:UA prog w b0 os0 call n) (hN:k7S prog w b0 os0 call init n) {k i:Nat} {ie:IE} {y:PySem.Str×Pos} {e:Expr} {p:Pos} (hv:Γ.vars[i]?=some y.1) (ck:k6D prog w b0 os0 call init n k Γ)
  (g:(match k1K ie with
   | some c=>k2W e fun el z iter ifs sc pos=>Γ.names.lookup y.1==some .local&&y.2.line==pos.line && !(sc.names.any fun (m,k)=>m==y.1&&(k==.local||k==.cell))&&has (qe Γ c.1) fun xs =>
     wt Γ.names z sc&&(xs.all fun y=>(jr Γ.names sc).lookup y==some .cell)&&ckI k Γ c.2.1 iter&&ckC k (jZ Γ z xs sc) c.2.2.1 ifs&&ckE k (jZ Γ z xs sc) c.2.2.2 el
   | none=>jW e&&ckE k Γ ie e)=true):SX prog w b0 os0 call init n Γ (.asg i ie) (.Assign [.Name y.1 y.2] e p):=by
 have hc:=k5l ie
 revert g hc
 cases k1K ie with
 | none =>
  intro g z9 env ρ σ s A l Q X F a q
  exact b2 g fun g1 g2=>K0V nd g1 hv (ck.e g2).s F a q
 | some c =>
  intro g hc
  refine er (show ie=_ from hc) ?_
  intro env ρ σ s A l Q X F a q
  refine (k4z (P:=fun z=>SX prog w b0 os0 call init n Γ (.asg i (.comp c.1 c.2.1 c.2.2.1 c.2.2.2)) (.Assign [.Name y.1 y.2] z p)) g fun el z pz iter ifs sc pos g=>?_:SX prog w b0 os0 call init n Γ (.asg i (.comp c.1 c.2.1 c.2.2.1 c.2.2.2)) (.Assign [.Name y.1 y.2] e p)) F a q
  clear q a F X Q l A s σ ρ env
  refine b4 g fun u1 u2 u3 g=>hs g fun xs hcaps g=>b5 g fun g1 g2 h3 h4 h5=>?_
  have ckx:=k3A hS hN k (Γ:=jZ Γ z xs sc) B
  exact k8s (cond:=c.2.2.1) (ifs:=ifs) B nd hv (eq_of_beq u1) u2 ((Bool.not_eq_true' _).mp u3) g1 hcaps (fun y hy=>eq_of_beq (List.all_eq_true.mp g2 y hy)) h3 (ck.i h3) (ckx.c h4) (ckx.e h5).1
theorem K1N (h:ExceptHandler):∃ p,h=.ExceptHandler (hv h).1 (hv h).2.1 (hv h).2.2 p:=by cases h;exact ⟨_,rfl⟩
theorem k8A (hS:UA prog w b0 os0 call n) (hN:k7S prog w b0 os0 call init n) (hlim:b0.NoLimit) {k:Nat} {is:IS} {st:Stmt} (B:Ws Γ.K b0) (nd:Γ.vars.Nodup) (ck:k6D prog w b0 os0 call init n k Γ)
  (ih:∀ iss sts,k4T k Γ iss sts=true→SXs prog w b0 os0 call init n Γ iss sts) (h:ckS (k+1) Γ is st=true):SX prog w b0 os0 call init n Γ is st∧True:=by
 have W:=k5B st
 cases is with
 | expr ie=>exact hs h fun x hx g=>b2 g fun g1 g2=>(W.kExpr.get hx).elim fun p e=>by refine er e ?_;with_reducible exact ⟨k9l g1 (ck.e g2).s,trivial⟩
 | asg i ie=>exact hs h fun x hx g=>hs g fun t ht g=>hs g fun y hy g=>b2 g fun g1 g2=>(W.kAsg.get hx).elim fun p e=>by refine er e (er (KP ht) (er ((JT t).kNameP.get hy) ?_));with_reducible exact ⟨k8c B nd hS hN (eq_of_beq g1) ck g2,trivial⟩
 | asgT is ie=>exact hs h fun x hx g=>hs g fun t ht g=>hs g fun y hy g=>b5 g fun g1 g2 g3 g4 g5=>x11 (k2F g4) fun r hr hq=>(W.kAsg.get hx).elim fun p e=>x20 (k0P hy) fun kk p' e'=>by refine er e (er (KP ht) (er e' ?_));with_reducible exact ⟨k8Q nd g1 g2 (of_decide_eq_true g3) hr hq (ck.e g5).s,trivial⟩
 | setA C nm io ie=>exact hs h fun x hx g=>hs g fun t ht g=>hs g fun y hy g=>b5 g fun g1 g2 g3 g4 g5=>(W.kAsg.get hx).elim fun p e=>by refine er e (er (KP ht) (er (qE hy) ?_));with_reducible exact ⟨k8t B (eq_of_beq g1) g2 g3 (ck.e g4).s (ck.e g5).s,trivial⟩
 | setI io ii ie=>exact hs h fun x hx g=>hs g fun t ht g=>hs g fun y hy g=>b4 g fun g1 g2 g3 g4=>(W.kAsg.get hx).elim fun p e=>(WQ hy).elim fun p' e'=>by refine er e (er (KP ht) (er e' ?_));with_reducible exact ⟨k8b B g1 (ck.e g2).s (ck.e g3).s (ck.e g4).s,trivial⟩
 | augA C nm op io ie=>exact hs h fun x hx g=>hs g fun y hy g=>b7 g fun g1 g2 g3 g4 g5 g6 g7=>(W.kAug.get hx).elim fun p e=>by refine er e (er (qE hy) (er (eq_of_beq g1) (er (eq_of_beq g2) ?_)));with_reducible exact ⟨k8h B (eq_of_beq g3) g4 g5 (ck.e g6).s (ck.e g7).s,trivial⟩
 | augI op io ii ie=>exact hs h fun x hx g=>hs g fun y hy g=>b6 g fun g1 g2 g3 g4 g5 g6=>(W.kAug.get hx).elim fun p e=>(WQ hy).elim fun p' e'=>by refine er e (er e' (er (eq_of_beq g1) (er (eq_of_beq g2) ?_)));with_reducible exact ⟨k8T B g3 (ck.e g4).s (ck.e g5).s (ck.e g6).s,trivial⟩
 | ite c t f=>exact hs h fun x hx g=>b4 g fun g1 g2 g3 g4=>(W.kIte.get hx).elim fun p e=>by refine er e ?_;with_reducible exact ⟨k9R ((ck.e g2).t g1) (ih _ _ g3) (ih _ _ g4),trivial⟩
 | for1 i it ib=>exact hs h fun x hx g=>b2 g fun g0 g=>hs g fun y hy g=>b3 g fun g1 g2 g3=>(W.kFor.get hx).elim fun p e=>(jE hy).elim fun p' e'=>by refine er e (er e' (er (KN g0) ?_));with_reducible exact ⟨k9s B nd (eq_of_beq g1) g2 (ck.i g2) (ih _ _ g3),trivial⟩
 | forT is it ib=>exact hs h fun x hx g=>b2 g fun g0 g=>hs g fun y hy g=>b3 g fun g1 g2 g3=>(W.kFor.get hx).elim fun p e=>x20 (k0P hy) fun kk p' e'=>by refine er e (er e' (er (KN g0) ?_));with_reducible exact ⟨k8w B nd g1 g2 (ck.i g2) (ih _ _ g3),trivial⟩
 | «while» c ib=>exact hs h fun x hx g=>b4 g fun g1 g2 g3 g4=>(W.kWhile.get hx).elim fun p e=>by refine er e (er (KN g1) ?_);with_reducible exact ⟨k5A ((ck.e g3).t g2) (ih _ _ g4),trivial⟩
 | ret ie =>
  refine hs h fun o hx g=>(W.kRet.get hx).elim fun p e=>?_
  refine er e ?_
  cases o with
  | some e=>exact ⟨K02 (ck.e g).s,trivial⟩
  | none=>refine er (k7e g) ?_;with_reducible exact ⟨k9x,trivial⟩
 | raise C as=>exact hs h fun x hx g=>b2 g fun g0 g=>hs g fun t ht g=>x41 (jG g) fun y py es pc e' g=>b5 g fun g1 g2 g3 g4 g5=>(W.kRaise.get hx).elim fun p e=>by refine er e (er ht (er e' (er (Jl g0) ?_)));with_reducible exact ⟨k6r B hlim g1 g2 g3 (of_decide_eq_true g4) (jT g5) (ck.es g5),trivial⟩
 | tryE body C as ih'=>exact hs h fun x hx g=>b3 g fun g1 g2 g=>hs g fun d hd g=>hs g fun t ht g=>hs g fun y hy g=>b5 g fun g3 g4 g5 g6 g7=>(W.kTry.get hx).elim fun p e=>(K1N d).elim fun pd ed=>(jE hy).elim fun p' e'=>by refine er e (er (KP hd) (er ed (er ht (er e' (er (KN g1) (er (KN g2) ?_))))));exact ⟨k9Y B nd g3 (eq_of_beq g4) (k6g g5) (ih _ _ g6) g7,trivial⟩
 | pass=>exact hs h fun x hx g=>(W.kPass.get hx).elim fun p e=>by refine er e ?_;with_reducible exact ⟨k8L,trivial⟩
theorem k8d (hS:UA prog w b0 os0 call n) (hN:k7S prog w b0 os0 call init n) (hlim:b0.NoLimit) (k:Nat) {Γ:Ctx} (B:Ws Γ.K b0) (nd:Γ.vars.Nodup) :
  (∀ is st,ckS k Γ is st=true→SX prog w b0 os0 call init n Γ is st)∧(∀ iss sts,k4T k Γ iss sts=true→SXs prog w b0 os0 call init n Γ iss sts):=by
 induction k with
 | zero=>exact ⟨fun z9 z9 h=>Bool.noConfusion h,fun z9 z9 h=>Bool.noConfusion h⟩
 | succ k ih =>
  refine ⟨fun is st h=>(k8A hS hN hlim B nd (k3A hS hN k B) ih.2 h).1,fun iss sts h=>?_⟩
  cases iss with
  | nil=>refine er (KN h) ?_;exact k76
  | cons is iss =>
   cases sts with
   | nil=>injection h
   | cons st sts=>exact b2 h fun h1 h2=>k5I (ih.1 _ _ h1) (ih.2 _ _ h2)
end
noncomputable def K2k (C:Addr):IE:=.cmp .eq (.bin .mod (.sub (.attr C [110,101,119] (.loc 0)) (.cint 3)) (.cint 2)) (.cint 0)
noncomputable def k5J (C:Addr):IFn:=⟨1,[],1,[.ret (K2k C)]⟩
noncomputable def k9z (K:Frag) (init:Addr→Option Addr):Ctx:=⟨K,[(("entry" : PySem.Str),.local)],["entry"],init,none⟩
structure Tab (K:Frag) (FT:Addr→Option IFn) (init:Addr→Option Addr):Prop where
 fn:∀ f fn,FT f=some fn→f≠qU→∃ Γ body,Γ.K=K∧zc K f fn Γ=some body∧k4T 100 Γ fn.body body=true
 lam:∃ C,FT qU=some (k5J C)∧yb K C (ke [110,101,119])=true
 new:∀ C f,init C=some f→f≠qU∧makesIn K C=true∧findIn K (.ref C) "__init__" = some (some (.ref f))∧typeIn K (.ref f)=some (.type "function")
section
variable {prog:Program} {w:World} {b0:Heap} {os0:OsState} {call:jH} {init:Addr→Option Addr} {n:Nat} {K:Frag}
variable (prog w b0 os0) in
def K1H (l:List Env) (σ:Sto) (s:Shared) (Q:QV) (X:QX):Result→Shared→Prop:=fun r s'=>match r with
 | .ok (.ret u)=>PV prog w b0 os0 l σ s Q u s'
 | .ok _=>False
 | .error e=>PX prog w b0 os0 l σ s X e s'
variable (prog w b0 os0 call n) in
noncomputable def Ux:Prop:=∀ {f:Addr} {v:Value} {xs:List V} {vs:List Value} {σ:Sto} {s:Shared} {A:Around} {l:List Env} {Q:QV} {X:QX},k7L s.heap f v →
 Inv prog w b0 os0 l σ s→K1O A l n→VRs s.heap xs vs→call f xs σ Q X→codeAny (model prog w) A (.call v ⟨vs,[]⟩) (K1H prog w b0 os0 l σ s Q X) s
theorem k7g (h:Ux prog w b0 os0 call n):UA prog w b0 os0 call n:=by
 intro f v xs vs σ s A l Q X hc I hR r q
 refine wpAny_call (codeAny_mono (h hc I ⟨hR.1,hR.2.1,?_,?_⟩ r q) fun r s' z=>?_)
 ·have:=hR.2.2.1;lia
 ·have:=hR.2.2.2;lia
 ·rcases r with e | (v | _ | _ | _) <;> exact z
theorem k86 (B:Ws K b0) {FT:Addr→Option IFn} (T:Tab K FT init) (h:Ux prog w b0 os0 call n):k7S prog w b0 os0 call init n:=by
 intro C f xs vs σ s A l Q X hi I hR r q
 refine x03 (T.new C f hi) fun t0 t1 t2 t3=>?_
 obtain ⟨hp,g,d,t,os⟩:=s
 have XX:K.In hp:=I.KIn B.X
 refine wpAny_call (make_core (makes_of XX t1) (looks_findIn XX t2) (fun self=>bind_fn XX self t3) (.inl rfl) ?_)
 refine x03 (k7I (A:=A) C vs) fun w1 w2 w3 w4=>?_
 have e1:(hp.push emptyDict).objs.size=hp.objs.size+1:=Heap.size_push ..
 have S1:kQ prog w b0 os0 l σ ⟨hp,g,d,t,os⟩ (σ.upd hp.objs.size (.dict [])) ⟨hp.push emptyDict,g,d,t,os⟩:=kQ.new I (Kx _) (kW _ _) ⟨[],k16 _,rfl⟩
 have hget:((hp.push emptyDict).push (instObj C hp.objs.size)).get? (hp.objs.size+1)=some (instObj C hp.objs.size):=by
  have:=Heap.get?_push_size (hp.push emptyDict) (o:=instObj C hp.objs.size) rfl
  rw[e1] at this;exact this
 have n1:(hp.push emptyDict).get? (hp.objs.size+1)=none:=by refine er (Eq.symm e1) ?_;exact Kx _
 have S2:kQ prog w b0 os0 l (σ.upd hp.objs.size (.dict [])) ⟨hp.push emptyDict,g,d,t,os⟩ ((σ.upd hp.objs.size (.dict [])).upd (hp.objs.size+1) (.inst C hp.objs.size)) ⟨(hp.push emptyDict).push (instObj C hp.objs.size),g,d,t,os⟩ :=
  kQ.new S1.inv n1 (kW _ _) ⟨_,_,hget,rfl,(fun xs n z=>by injection z),(fun v z=>by injection z)⟩
 have S:=S1.trans S2
 have na:hp.get? (hp.objs.size+1)=none:=Heap.get?_none_of_le (by lia)
 have qq:=q (hp.objs.size+1) hp.objs.size (I.fresh na) (I.fresh (Kx _)) (Nat.succ_ne_self _)
 refine codeAny_mono (h (.inr ⟨t0,rfl⟩) S.inv ⟨w1.trans hR.1,w2.trans hR.2.1,?_,?_⟩ (.cons (x:=.ref (hp.objs.size+1)) rfl (S.vrs I r)) qq) fun r s' z=>?_
 ·have:=hR.2.2.1;lia
 ·have:=hR.2.2.2;lia
 ·rcases r with e | (v | _ | _ | _)
  ·exact PX.back S z
  ·exact z.elim
  ·exact z.elim
  ·exact z.elim
  ·refine bc fun zg=>?_
   refine x23 z ?_;clear z;intro x σ' S' r' zr4 q';subst zr4
   change _=_ at r'
   refine zg ?_;clear zg
   exact ⟨r',PV.now (x:=.ref (hp.objs.size+1)) (S.trans S') rfl q'⟩
end
end
section
variable {prog:Program} {w:World} {b0:Heap} {os0:OsState} {init:Addr→Option Addr} {n:Nat} {K:Frag} {FT:Addr→Option IFn} {Γ:Ctx} {env:Env} {ρ:Loc} {σ:Sto} {s s₁ s':Shared} {A:Around} {l:List Env}
theorem YK (F:Wu b0 env) (a:At prog w b0 os0 n Γ env ρ σ s₁ A (env::l)) (S:kQ prog w b0 os0 l σ s σ s₁) (fr:∀ b,k08 env b→s.heap.get? b=none) {X:QX} {v:Value} {E:Value→Shared→Prop}
  (z:PXS prog w b0 os0 n Γ env A l σ s₁ (fun z9 e σ=>X e σ) v s'):wpAny (model prog w) A (leaving env v) (fun z9 s''=>PX prog w b0 os0 l σ s X v s'') E s':=by
 refine x34 z ?_;clear z;intro ρ' e σ' zr3 SS a' fl q;subst zr3
 unfold leaving
 refine wpAny_bind (wpAny_mono (k1t (A':=A) (E:=E) (Q:=fun z9 s''=>PX prog w b0 os0 l σ s X (.ref e) s'') F a' a'.room.2.1 a.inv.stay SS fl fun s'' S'' a'' fl''=>?_) (fun z9 z9 z=>z) fun z9 z9 z=>z)
 exact ⟨e,σ',rfl,Kc.toStep S S'' a''.inv.pop fr,fl''.back fun z=>S.back z,q⟩
theorem k2w {f:Addr} {xs:List V} {Q:QV} {X:QX} (q:QW FT init (n+1) f xs σ Q X):∃ fn ρ,FT f=some fn∧fn.bind xs=some ρ∧exs (QW FT init n) init fn.body ρ σ (fun o z9 σ=>Q (o.getD .none) σ) fun z9 e σ=>X e σ:=by
 replace q:match FT f with
  | some fn=>match fn.bind xs with
   | some ρ=>exs (QW FT init n) init fn.body ρ σ (fun o z9 σ=>Q (o.getD .none) σ) (fun z9 e σ=>X e σ)
   | none=>False
  | none=>False:=q
 cases h:FT f with
 | none=>rw[h] at q;exact q.elim
 | some fn =>
  rw[h] at q;replace q:match fn.bind xs with | some ρ=>_ | none=>False:=q
  cases hb:fn.bind xs with
  | none=>rw[hb] at q;exact q.elim
  | some ρ=>rw[hb] at q;exact ⟨fn,ρ,rfl,hb,q⟩
theorem wb {a b:Bool} (h:a=true) (g:b=true):(a&&b)=true:=Bool.and_eq_true_iff.mpr ⟨h,g⟩
theorem k9L (B:Ws K b0) (hlim:b0.NoLimit) (T:Tab K FT init) (n:Nat):Ux prog w b0 os0 (QW FT init n) n:=by
 induction n with
 | zero =>
  intro f v xs vs σ s A l Q X hc I hR r q
  exact q.elim
 | succ n ih =>
  have hS:UA prog w b0 os0 (QW FT init n) n:=k7g ih
  have hN:k7S prog w b0 os0 (QW FT init n) init n:=k86 B T ih
  intro f v xs vs σ s A l Q X hc I hR r q
  refine x22 (k2w q) fun fn ρ hfn hb q=>?_
  have hdp:A.depth<recursionLimit:=by have:=hR.2.2.1;lia
  have hroom:∀ env,k8H (A.deeper env) (env::l) n:=fun env=>by
   refine ⟨hR.1,Around.frames_deeper hR.2.1,?_,?_⟩
   ·show A.depth+1+3*n+3≤_;have:=hR.2.2.1;lia
   ·show A.units+3+60*n+60≤_;have:=hR.2.2.2;lia
  rcases hc with ⟨rfl,hv⟩ | ⟨ne,rfl⟩
  ·refine bc fun zg=>?_
   refine x11 T.lam fun C hC hat=>?_
   rw[hfn] at hC;injection hC with hC;subst hC
   obtain ⟨a0,o,fd,c,oc,cs,t,rfl,ho,hoc,hod,hcode,hcg,hcc,hcd,hc1,l1,l2,l3,l4,l5,l6,l7,l8,p,k,l9⟩:=hv
   obtain ⟨x,rfl⟩:∃ x,xs=[x]:=by
    unfold IFn.bind at hb
    split at hb
    ·rename_i hl
     simp only[k5J,List.length_nil,Nat.add_zero] at hl
     match xs,hl with
     | [x],_=>exact ⟨x,rfl⟩
     | [],hl=>simp at hl
     | _::_::_,hl=>simp at hl
    ·injection hb
   cases Option.some.inj hb
   refine x11 (k0O r) fun u zr1 ru=>?_;subst zr1
   have hcE:ckE 10 (k9z K init) (K2k C) (zu p k)=true:=by
    have h0:qX (k9z K init) 0 ("entry" : PySem.Str)=true:=by
     simp only[qX,k9z,Bool.and_eq_true]
     exact ⟨⟨by decide +kernel,by decide +kernel⟩,by decide +kernel⟩
    exact wb (wb (wb rfl rfl) (wb (wb rfl (wb (wb rfl (wb (wb (wb (show (Str.ofString "new" == ke [110,101,119])=true by decide +kernel) hat) rfl) h0)) rfl)) rfl)) rfl
   refine zg ?_;clear zg
   refine kla_callFunE hdp ho hod l5 l6 l9 ⟨c,oc,cs,t,hcode,hcg,hcd,hc1⟩ ?_
   refine er (l8 u) ?_
   refine wpAny_pure ?_
   refine er l1 ?_
   refine k1S (Γ:=k9z K init) (np:=1) (k:=0) (ys:=[x]) (us:=[u]) I hroom l2 l3 l4 l7 rfl (by show [("entry" : PySem.Str)].Nodup;simp) (Nat.le_refl 1) r rfl (fun c P q e=>by injection e) fun env s₁ F a S fr=>?_
   refine ⟨hlim.keeps S.inv.stay,kla_codeExpr ?_⟩
   have B':Ws (k9z K init).K b0:=B
   refine wpAny_mono (((k3A hS hN 10 (Γ:=k9z K init) B').e hcE).1 a q) (fun v s' z=>?_) fun e s' z=>?_
   ·refine x22 z ?_;clear z;intro y σ' S' r' q'
    exact ⟨y,σ',Kc.toStep S (.ofStep F S') S'.inv.pop fr,r',q'⟩
   ·exact YK F a S fr (PXS.ofPX (X:=fun z9 e σ=>X e σ) F a z)
  ·refine bc fun zg=>?_
   refine x22 (T.fn f fn hfn ne) fun Γ body zr2 hh hck=>?_;subst zr2
   have hSX:SXs prog w b0 os0 (QW FT init n) init n Γ fn.body body:=(k8d hS hN hlim 100 B (uO hh)).2 _ _ hck
   refine zg ?_;clear zg
   refine k1v (n:=n) B hlim hh I hdp (Af:=fun env=>A.deeper env) hroom r hb fun env s₁ F a S fr=>?_
   refine wpAny_mono (hSX F a q) (fun fl s' z=>?_) fun e s' z=>YK F a S fr z
   refine x33 z ?_;clear z;intro o ρ' σ' SS a' rr q'
   have ST:=Kc.toStep S SS a'.inv.pop fr
   cases o with
   | none =>
    simp only[k6M] at rr;subst rr
    exact ⟨.none,σ',ST,rfl,q'⟩
   | some y =>
    refine bc fun zg=>?_
    refine x11 rr ?_;clear rr;intro u zr1 ru;subst zr1
    refine zg ?_;clear zg
    exact ⟨y,σ',ST,ru,q'⟩
end
end
section
set_option genCtorIdx false
set_option genInjectivity false
open PySem PySem.W
noncomputable abbrev Ks:Addr:=52
noncomputable abbrev k0I:Addr:=64
noncomputable abbrev Kn:Addr:=76
noncomputable abbrev JA:Addr:=88
noncomputable abbrev Qv:Addr:=100
noncomputable abbrev k22:Addr:=112
noncomputable abbrev kO:Addr:=204
noncomputable abbrev ko:Addr:=378
noncomputable abbrev Ke:Addr:=435
noncomputable abbrev ki:Addr:=463
noncomputable abbrev kh:Addr:=574
noncomputable abbrev qh:Addr:=119
noncomputable abbrev js:Addr:=124
noncomputable abbrev yL:Addr:=131
noncomputable abbrev qJ:Addr:=138
noncomputable abbrev jC:Addr:=145
noncomputable abbrev JZ:Addr:=152
noncomputable abbrev we:Addr:=159
noncomputable abbrev qP:Addr:=166
noncomputable abbrev jK:Addr:=173
noncomputable abbrev Jc:Addr:=180
noncomputable abbrev qw:Addr:=215
noncomputable abbrev ji:Addr:=220
noncomputable abbrev qD:Addr:=227
noncomputable abbrev jV:Addr:=474
noncomputable abbrev wg:Addr:=583
noncomputable abbrev kw:Addr:=590
noncomputable abbrev Kq:Addr:=597
noncomputable abbrev KM:Addr:=604
noncomputable abbrev KG:Addr:=611
noncomputable abbrev Jb:Addr:=618
noncomputable abbrev JR:Addr:=625
noncomputable abbrev wm:Addr:=632
noncomputable abbrev kP:Addr:=637
noncomputable abbrev WF:Addr:=642
noncomputable abbrev jL:Addr:=649
noncomputable abbrev kX:Addr:=656
noncomputable abbrev jD:Addr:=661
noncomputable abbrev jR:Addr:=666
noncomputable abbrev KR:Addr:=673
noncomputable abbrev Kl:Addr:=678
noncomputable abbrev jc:Addr:=683
noncomputable abbrev k0y:Addr:=688
noncomputable abbrev ja:Addr:=194
noncomputable abbrev JC:Addr:=201
noncomputable abbrev Jy:Addr:=241
noncomputable abbrev qy:Addr:=248
noncomputable abbrev QA:Addr:=262
noncomputable abbrev jo:Addr:=269
noncomputable abbrev wi:Addr:=283
noncomputable abbrev jm:Addr:=297
noncomputable abbrev KF:Addr:=304
noncomputable abbrev jy:Addr:=312
noncomputable abbrev jf:Addr:=319
noncomputable abbrev qB:Addr:=333
noncomputable abbrev Jk:Addr:=340
noncomputable abbrev jh:Addr:=347
noncomputable abbrev KS:Addr:=354
noncomputable abbrev Km:Addr:=361
noncomputable abbrev KQ:Addr:=368
noncomputable abbrev Jo:Addr:=375
noncomputable abbrev JB:Addr:=396
noncomputable abbrev YB:Addr:=403
noncomputable abbrev zY:Addr:=411
noncomputable abbrev Wa:Addr:=418
noncomputable abbrev je:Addr:=432
noncomputable abbrev jt:Addr:=453
noncomputable abbrev Kd:Addr:=460
noncomputable abbrev Ky:Addr:=488
noncomputable abbrev kA:Addr:=495
noncomputable abbrev jA:Addr:=502
noncomputable abbrev KA:Addr:=516
noncomputable abbrev jp:Addr:=523
noncomputable abbrev jB:Addr:=530
noncomputable abbrev Qe:Addr:=537
noncomputable abbrev Kk:Addr:=542
noncomputable abbrev wk:Addr:=549
noncomputable abbrev jU:Addr:=556
noncomputable abbrev kL:Addr:=564
noncomputable abbrev kM:Addr:=571
noncomputable abbrev Wt:Addr:=680
noncomputable abbrev wa:Pos:=⟨497,17,497,52⟩
noncomputable abbrev k4p:PySem.Str := "_law_turn_right.<locals>.<lambda>"
noncomputable def Uq:IFn:=⟨1,[],1,
 [
 .ret (.meth .sjoin (.cstr []) [(.comp [] (.e (.loc 0)) none (.bi .chr [(.loc 0)]))])]⟩
noncomputable def k4B:List PySem.Str:=["octets"]
noncomputable def YQ:IFn:=⟨1,[],3,
 [
 .asg 1 (.comp [] (.e (.loc 0)) none (.bi .ord [(.loc 0)])),
 .for1 2 (.e (.loc 1))
  [
  .ite (.cmp .gt (.loc 2) (.cint 255))
   [
   .raise Ks [(.loc 0)]]
   []],
 .ret (.bi .bytes [(.loc 1)])]⟩
noncomputable def k0B:List PySem.Str:=["text","numbers","number"]
noncomputable def k15:IFn:=⟨1,[],3,
 [
 .asg 1 (.list []),
 .for1 2 (.e (.loc 0))
  [
  .expr (.meth .lappend (.loc 1) [(.sub (.glob (.str [48,49,50,51,52,53,54,55,56,57,97,98,99,100,101,102])) (.bin .shr (.loc 2) (.cint 4)))]),
  .expr (.meth .lappend (.loc 1) [(.sub (.glob (.str [48,49,50,51,52,53,54,55,56,57,97,98,99,100,101,102])) (.bin .band (.loc 2) (.cint 15)))])],
 .ret (.meth .sjoin (.cstr []) [(.loc 1)])]⟩
noncomputable def k7k:List PySem.Str:=["octets","found","octet"]
noncomputable def YN:IFn:=⟨1,[],2,
 [
 .asg 1 (.meth .sfind (.glob (.str [48,49,50,51,52,53,54,55,56,57,97,98,99,100,101,102])) [(.loc 0)]),
 .ite (.and (.cmp .lt (.loc 1) (.cint 0)) (.cmp .isin (.loc 0) (.cstr [65,66,67,68,69,70])))
  [
  .ret (.bin .add (.cint 10) (.meth .sfind (.cstr [65,66,67,68,69,70]) [(.loc 0)]))]
  [],
 .ret (.ife (.cmp .ge (.loc 1) (.cint 0)) (.loc 1) .cnone)]⟩
noncomputable def k0t:List PySem.Str:=["sign","place"]
noncomputable def Qp:IFn:=⟨1,[],5,
 [
 .ite (.cmp .ne (.bin .mod (.bi .len [(.loc 0)]) (.cint 2)) (.cint 0))
  [
  .raise Ks [(.loc 0)]]
  [],
 .asg 1 (.list []),
 .for1 2 (.range [(.cint 0),(.bi .len [(.loc 0)]),(.cint 2)])
  [
  .asg 3 (.callF qJ [(.sub (.loc 0) (.loc 2))]),
  .asg 4 (.callF qJ [(.sub (.loc 0) (.bin .add (.loc 2) (.cint 1)))]),
  .ite (.or (.cmp .is (.loc 3) .cnone) (.cmp .is (.loc 4) .cnone))
   [
   .raise Ks [(.loc 0)]]
   [],
  .expr (.meth .lappend (.loc 1) [(.bin .add (.bin .mul (.cint 16) (.loc 3)) (.loc 4))])],
 .ret (.bi .bytes [(.loc 1)])]⟩
noncomputable def zf:List PySem.Str:=["text","found","at","high","low"]
noncomputable def uL:IFn:=⟨1,[],1,
 [
 .ret (.bi .bytes [(.loc 0)])]⟩
noncomputable def k43:List PySem.Str:=["size"]
noncomputable def Yf:IFn:=⟨2,[],5,
 [
 .ite (.cmp .eq (.bi .len [(.loc 0)]) (.cint 0))
  [
  .ret .cnone]
  [],
 .asg 2 (.cint 0),
 .for1 3 (.e (.loc 0))
  [
  .asg 4 (.bin .sub (.loc 3) (.glob (.int 48))),
  .ite (.not (.cmp2 .le .lt (.cint 0) (.loc 4) (.loc 1)))
   [
   .ret .cnone]
   [],
  .asg 2 (.bin .add (.bin .mul (.loc 1) (.loc 2)) (.loc 4))],
 .ret (.loc 2)]⟩
noncomputable def k0V:List PySem.Str:=["octets","base","number","octet","digit"]
noncomputable def zt:IFn:=⟨1,[],1,
 [
 .ite (.and (.cmp .gt (.bi .len [(.loc 0)]) (.cint 1)) (.cmp .eq (.sub (.loc 0) (.cint 0)) (.glob (.int 48))))
  [
  .ret .cnone]
  [],
 .ret (.callF we [(.loc 0),(.cint 10)])]⟩
noncomputable def k01:List PySem.Str:=["octets"]
noncomputable def qg:IFn:=⟨2,[],3,
 [
 .for1 2 (.e (.loc 1))
  [
  .ite (.cmp .ge (.meth .bfind (.loc 0) [(.bi .bytes [(.list [(.loc 2)])])]) (.cint 0))
   [
   .ret (.cbool true)]
   []],
 .ret (.cbool false)]⟩
noncomputable def WD:List PySem.Str:=["octets","signs","sign"]
noncomputable def Qa:IFn:=⟨2,[],3,
 [
 .for1 2 (.e (.loc 0))
  [
  .ite (.cmp .notin (.loc 2) (.loc 1))
   [
   .ret (.cbool false)]
   []],
 .ret (.cbool true)]⟩
noncomputable def yt:List PySem.Str:=["octets","signs","sign"]
noncomputable def wy:IFn:=⟨1,[],9,
 [
 .asg 1 (.meth .bfind (.loc 0) [(.cbytes [32,60])]),
 .ite (.cmp .lt (.loc 1) (.cint 0))
  [
  .raise Ks [(.cstr [97,32,112,101,114,115,111,110,32,119,105,116,104,111,117,116,32,98,114,97,99,107,101,116,115])]]
  [],
 .asgT [2,3] (.tup [(.slice (.loc 0) none (some (.loc 1))),(.slice (.loc 0) (some (.bin .add (.loc 1) (.cint 2))) none)]),
 .asg 4 (.meth .bfind (.loc 3) [(.cbytes [62,32])]),
 .ite (.cmp .lt (.loc 4) (.cint 0))
  [
  .raise Ks [(.cstr [97,32,112,101,114,115,111,110,32,119,105,116,104,111,117,116,32,98,114,97,99,107,101,116,115])]]
  [],
 .asgT [5,3] (.tup [(.slice (.loc 3) none (some (.loc 4))),(.slice (.loc 3) (some (.bin .add (.loc 4) (.cint 2))) none)]),
 .ite (.callF jK [(.bin .add (.loc 2) (.loc 5)),(.cbytes [60,62,10,0])])
  [
  .raise Ks [(.cstr [115,105,103,110,115,32,116,104,97,116,32,110,111,32,112,101,114,115,111,110,32,104,97,115])]]
  [],
 .asg 6 (.meth .bfind (.loc 3) [(.cbytes [32])]),
 .ite (.cmp .lt (.loc 6) (.cint 0))
  [
  .raise Ks [(.cstr [97,32,112,101,114,115,111,110,32,119,105,116,104,111,117,116,32,97,32,122,111,110,101])]]
  [],
 .asgT [7,8] (.tup [(.callF qP [(.slice (.loc 3) none (some (.loc 6)))]),(.slice (.loc 3) (some (.bin .add (.loc 6) (.cint 1))) none)]),
 .ite (.cmp .is (.loc 7) .cnone)
  [
  .raise Ks [(.cstr [97,32,109,111,109,101,110,116,32,116,104,97,116,32,105,115,32,110,111,32,110,117,109,98,101,114])]]
  [],
 .ite (.or (.cmp .ne (.bi .len [(.loc 8)]) (.cint 5)) (.or (.cmp .notin (.sub (.loc 8) (.cint 0)) (.cbytes [43,45])) (.not (.callF Jc [(.slice (.loc 8) (some (.cint 1)) none),(.glob (.bytes [48,49,50,51,52,53,54,55,56,57]))]))))
  [
  .raise Ks [(.cstr [97,32,122,111,110,101,32,116,104,97,116,32,105,115,32,110,111,110,101])]]
  [],
 .ret (.new kO [(.loc 2),(.loc 5),(.loc 7),(.loc 8)])]⟩
noncomputable def un:List PySem.Str:=["octets","start","name","rest","end","email","blank","when","zone"]
noncomputable def QO:IFn:=⟨1,[],5,
 [
 .asg 1 (.meth .bsplit (.loc 0) [(.cbytes [47])]),
 .ite (.not (.bi .all [(.comp [] (.e (.loc 1)) none (.cmp .ne (.loc 0) (.cbytes [])))]))
  [
  .raise JA [(.loc 0)]]
  [],
 .asgT [2,3] (.tup [(.list []),(.cbytes [])]),
 .for1 4 (.e (.loc 1))
  [
  .expr (.meth .lappend (.loc 2) [(.tup [(.loc 3),(.loc 4)])]),
  .asg 3 (.callF qD [(.loc 3),(.loc 4)])],
 .ret (.loc 2)]⟩
noncomputable def zE:List PySem.Str:=["path","parts","found","folder","part"]
noncomputable def yT:IFn:=⟨2,[],2,
 [
 .ret (.ife (.cmp .eq (.loc 0) (.cbytes [])) (.loc 1) (.bin .add (.bin .add (.loc 0) (.cbytes [47])) (.loc 1)))]⟩
noncomputable def UY:List PySem.Str:=["folder","name"]
noncomputable def qQ:IFn:=⟨2,[],8,
 [
 .asg 2 (.bin .mul (.cint 2) (.loc 1)),
 .ite (.or (.cmp .lt (.bi .len [(.loc 0)]) (.bin .add (.bin .mul (.cint 2) (.loc 2)) (.cint 2))) (.or (.cmp .ne (.slice (.loc 0) (some (.loc 2)) (some (.bin .add (.loc 2) (.cint 1)))) (.cbytes [32])) (.cmp .ne (.slice (.loc 0) (some (.bin .add (.bin .mul (.cint 2) (.loc 2)) (.cint 1))) (some (.bin .add (.bin .mul (.cint 2) (.loc 2)) (.cint 2)))) (.cbytes [32]))))
  [
  .raise Ks [(.cstr [97,32,114,111,119,32,111,102,32,97,32,108,111,103])]]
  [],
 .asgT [3,4] (.tup [(.callF jC [(.callF qh [(.slice (.loc 0) none (some (.loc 2)))])]),(.callF jC [(.callF qh [(.slice (.loc 0) (some (.bin .add (.loc 2) (.cint 1))) (some (.bin .add (.bin .mul (.cint 2) (.loc 2)) (.cint 1))))])])]),
 .asgT [5,6,7] (.meth .bpart (.slice (.loc 0) (some (.bin .add (.bin .mul (.cint 2) (.loc 2)) (.cint 2))) none) [(.cbytes [9])]),
 .ret (.new ki [(.loc 3),(.loc 4),(.callF qw [(.loc 5)]),(.callF qh [(.loc 7)])])]⟩
noncomputable def yI:List PySem.Str:=["row","size","wide","old","new","person","tab","message"]
noncomputable def Yz:IFn:=⟨1,[],4,
 [
 .asgT [1,2] (.tup [(.comp [] (.e (.slice (.loc 0) none (some (.cint 24)))) none (.bi .int [(.loc 0)])),(.cint 4646)]),
 .for1 3 (.e (.loc 1))
  [
  .asg 2 (.bin .mod (.bin .add (.bin .add (.bin .mul (.loc 2) (.cint 48271)) (.bin .mod (.loc 3) (.cint 2147483629))) (.cint 4646)) (.cint 2147483587))],
 .ret (.dict [([99,101,108,108,115],(.rev (.loc 1))),([109,105,120,101,100],(.loc 2)),([116,117,114,110],(.cint 0))])]⟩
noncomputable def k0c:List PySem.Str:=["script","cells","mixed","cell"]
noncomputable def zb:IFn:=⟨2,[],4,
 [
 .setI (.loc 0) (.cstr [116,117,114,110]) (.bin .add (.sub (.loc 0) (.cstr [116,117,114,110])) (.cint 1)),
 .asg 2 (.bin .add (.sub (.loc 0) (.cstr [109,105,120,101,100])) (.bin .mul (.bin .mul (.cint 61613) (.sub (.loc 0) (.cstr [116,117,114,110]))) (.sub (.loc 0) (.cstr [116,117,114,110])))),
 .ite (.cmp .ne (.sub (.loc 0) (.cstr [99,101,108,108,115])) (.list []))
  [
  .asg 3 (.meth .lpop (.sub (.loc 0) (.cstr [99,101,108,108,115])) []),
  .ite (.cmp .ge (.loc 3) (.cint 1000000))
   [
   .expr (.meth .lappend (.sub (.loc 0) (.cstr [99,101,108,108,115])) [(.bin .fdiv (.loc 3) (.loc 1))]),
   .ret (.bin .mod (.loc 3) (.loc 1))]
   [],
  .asg 2 (.bin .add (.loc 2) (.bin .mod (.loc 3) (.cint 2147483563)))]
  [],
 .asg 2 (.bin .mod (.bin .mul (.bin .mod (.loc 2) (.cint 2147483629)) (.cint 40692)) (.cint 2147483647)),
 .asg 2 (.bin .mod (.bin .add (.bin .mul (.loc 2) (.loc 2)) (.cint 1657)) (.cint 2147483587)),
 .ret (.bin .mod (.bin .fdiv (.bin .mod (.bin .mul (.loc 2) (.cint 39373)) (.cint 2147483579)) (.cint 64)) (.loc 1))]⟩
noncomputable def k0J:List PySem.Str:=["deck","below","figure","cell"]
noncomputable def yV:IFn:=⟨2,[],2,
 [
 .ret (.sub (.loc 1) (.callF kw [(.loc 0),(.bi .len [(.loc 1)])]))]⟩
noncomputable def k0h:List PySem.Str:=["deck","some"]
noncomputable def zZ:IFn:=⟨1,[],1,
 [
 .ret (.ife (.cmp .eq (.loc 0) (.cint 0)) (.bi .bytes [(.list [(.cint 0),(.cint 0),(.cint 0),(.cint 0)])]) (.bi .bytes [(.list [(.cint 0),(.cint 7),(.cint 1),(.loc 0)])]))]⟩
noncomputable def k2Y:List PySem.Str:=["number"]
noncomputable def Yn:IFn:=⟨0,[],0,
 [
 .ret (.list [(.cstr [72,69,65,68]),(.cstr [114,101,102,115,47,104,101,97,100,115,47,97]),(.cstr [114,101,102,115,47,104,101,97,100,115,47,97,47,98]),(.cstr [114,101,102,115,47,104,101,97,100,115,47,99])])]⟩
noncomputable def k02:List PySem.Str:=[]
noncomputable def qS:IFn:=⟨2,[],2,
 [
 .ret (.and (.cmp .ne (.loc 0) (.loc 1)) (.or (.cmp .eq (.slice (.loc 0) none (some (.bin .add (.bi .len [(.loc 1)]) (.cint 1)))) (.bin .add (.loc 1) (.cstr [47]))) (.cmp .eq (.slice (.loc 1) none (some (.bin .add (.bi .len [(.loc 0)]) (.cint 1)))) (.bin .add (.loc 0) (.cstr [47])))))]⟩
noncomputable def yG:List PySem.Str:=["one","other"]
noncomputable def QR:IFn:=⟨1,[],4,
 [
 .asgT [1,2] (.tup [(.list []),(.cstr [])]),
 .for1 3 (.e (.bin .add (.loc 0) (.cstr [32])))
  [
  .ite (.cmp .notin (.loc 3) (.cstr [32,9,10]))
   [
   .asg 2 (.bin .add (.loc 2) (.loc 3))]
   [
   .ite (.cmp .ne (.loc 2) (.cstr []))
    [
    .expr (.meth .lappend (.loc 1) [(.loc 2)]),
    .asg 2 (.cstr [])]
    []]],
 .ret (.meth .sjoin (.cstr [32]) [(.loc 1)])]⟩
noncomputable def zI:List PySem.Str:=["text","words","word","sign"]
noncomputable def YU:IFn:=⟨1,[],2,
 [
 .asg 1 (.attr ki [112,101,114,115,111,110] (.loc 0)),
 .ret (.tup [(.attr ki [111,108,100] (.loc 0)),(.attr ki [110,101,119] (.loc 0)),(.attr kO [110,97,109,101] (.loc 1)),(.attr kO [101,109,97,105,108] (.loc 1)),(.attr kO [119,104,101,110] (.loc 1)),(.attr kO [122,111,110,101] (.loc 1)),(.attr ki [109,101,115,115,97,103,101] (.loc 0))])]⟩
noncomputable def UW:List PySem.Str:=["entry","who"]
noncomputable def YO:IFn:=⟨2,[],2,
 [
 .ret (.comp [] (.e (.imeth kh Kk [101,110,116,114,105,101,115] (.new kh [(.loc 0),(.cbytes [46,103,105,116,47,108,111,103,115]),(.cint 4)]) [(.loc 1)])) none (.callF wm [(.loc 0)]))]⟩
noncomputable def k0Y:List PySem.Str:=["disk","name"]
noncomputable def Zi:IFn:=⟨1,[],6,
 [
 .asgT [1,2] (.tup [(.callF KM [(.callF kw [(.loc 0),(.cint 3)])]),(.callF KM [(.bin .add (.cint 1) (.callF kw [(.loc 0),(.cint 5)]))])]),
 .asgT [3,4] (.tup [(.bin .add (.cint 1000) (.callF kw [(.loc 0),(.cint 40)])),(.callF Kq [(.loc 0),(.list [(.cbytes [43,48,48,48,48]),(.cbytes [45,48,49,51,48]),(.cbytes [43,49,52,48,48])])])]),
 .asg 5 (.comp [0] (.range [(.callF kw [(.loc 0),(.cint 5)])]) none (.callF Kq [(.loc 1),(.list [(.cstr [99,111,109,109,105,116]),(.cstr [32]),(.cstr [32,32]),(.cstr [9]),(.cstr [10]),(.cstr [97,58,32,98]),(.cstr [120])])])),
 .ret (.tup [(.loc 1),(.loc 2),(.loc 3),(.loc 4),(.meth .sjoin (.cstr []) [(.loc 5)])])]⟩
noncomputable def k2A:List PySem.Str:=["deck","old","new","when","zone","pieces"]
noncomputable def zV:IFn:=⟨3,[],4,
 [
 .tryE
  [
  .asg 3 (.new kO [(.cbytes [65,32,66]),(.cbytes [97,64,98]),(.sub (.loc 2) (.cint 2)),(.sub (.loc 2) (.cint 3))]),
  .expr (.imeth kh Qe [97,100,100] (.new kh [(.loc 0),(.cbytes [46,103,105,116,47,108,111,103,115]),(.cint 4)]) [(.loc 1),(.sub (.loc 2) (.cint 0)),(.sub (.loc 2) (.cint 1)),(.loc 3),(.sub (.loc 2) (.cint 4))])] Qv none
  [
  .ret (.cbool false)],
 .ret (.cbool true)]⟩
noncomputable def k3d:List PySem.Str:=["disk","name","row","person"]
noncomputable def YC:IFn:=⟨1,[],1,
 [
 .ret (.tup [(.sub (.loc 0) (.cint 0)),(.sub (.loc 0) (.cint 1)),(.cbytes [65,32,66]),(.cbytes [97,64,98]),(.sub (.loc 0) (.cint 2)),(.sub (.loc 0) (.cint 3)),(.callF JR [(.sub (.loc 0) (.cint 4))])])]⟩
noncomputable def k0n:List PySem.Str:=["row"]
noncomputable def JN:IFn:=⟨4,[],10,
 [
 .asgT [4,5] (.tup [(.callF WF [(.loc 0)]),(.meth .dget (.loc 2) [(.loc 3),(.list [])])]),
 .asg 6 (.comp [3] (.e (.loc 2)) (some (.callF Jb [(.loc 1),(.loc 0)])) (.loc 0)),
 .ite (.and (.cmp .eq (.loc 6) (.list [])) (.cmp .eq (.callF kw [(.loc 0),(.cint 3)]) (.cint 0)))
  [
  .asg 7 (.imeth ko KS [99,111,112,121] (.loc 1) []),
  .setA ko [108,101,102,116] (.loc 7) (.callF kw [(.loc 0),(.cint 4)]),
  .asg 8 (.callF jL [(.loc 7),(.loc 3),(.loc 4)]),
  .setA ko [108,101,102,116] (.loc 7) .cnone,
  .ite (.cmp .notin (.callF kP [(.loc 7),(.loc 3)]) (.ife (.loc 8) (.list [(.bin .add (.loc 5) (.list [(.callF kX [(.loc 4)])]))]) (.list [(.loc 5),(.bin .add (.loc 5) (.list [(.callF kX [(.loc 4)])]))])))
   [
   .ret (.cbool false)]
   []]
  [],
 .for1 9 (.e (.loc 6))
  [
  .expr (.meth .dpop (.loc 2) [(.loc 9)])],
 .setI (.loc 2) (.loc 3) (.bin .add (.loc 5) (.list [(.callF kX [(.loc 4)])])),
 .ret (.callF jL [(.loc 1),(.loc 3),(.loc 4)])]⟩
noncomputable def wJ:List PySem.Str:=["deck","disk","model","name","row","was","beside","wreck","held","other"]
noncomputable def QP:IFn:=⟨3,[],6,
 [
 .asg 3 (.comp [1,2] (.e (.loc 0)) (some (.or (.cmp .ge (.sub (.loc 0) (.cint 4)) (.loc 1)) (.and (.loc 2) (.cmp .eq (.bin .mod (.sub (.sub (.loc 0) (.cint 1)) (.cint 3)) (.cint 2)) (.cint 0))))) (.loc 0)),
 .ite (.cmp .eq (.bi .len [(.loc 3)]) (.bi .len [(.loc 0)]))
  [
  .ret (.loc 0)]
  [],
 .asg 4 (.slice (.loc 3) none (some (.cint 1))),
 .for1 5 (.e (.slice (.loc 3) (some (.cint 1)) none))
  [
  .expr (.meth .lappend (.loc 4) [(.bin .add (.tup [(.sub (.sub (.loc 4) (.neg (.cint 1))) (.cint 1))]) (.slice (.loc 5) (some (.cint 1)) none))])],
 .ret (.loc 4)]⟩
noncomputable def zB:List PySem.Str:=["rows","before","is_wanted","kept","found","row"]
noncomputable def Ub:IFn:=⟨4,[],6,
 [
 .asg 4 (.new kh [(.loc 0),(.cbytes [46,103,105,116,47,108,111,103,115]),(.cint 4)]),
 .tryE
  [
  .ret (.ife (.loc 3) (.imeth kh jU [97,116,95,116,105,109,101] (.loc 4) [(.loc 1),(.loc 2)]) (.imeth kh wk [97,116] (.loc 4) [(.loc 1),(.loc 2)]))] Kn (some 5)
  [
  .ret (.attr Kn [116,111,108,100] (.loc 5))]]⟩
noncomputable def k3O:List PySem.Str:=["disk","name","number","is_time","logs","e"]
noncomputable def JJ:IFn:=⟨4,[],9,
 [
 .asg 4 (.meth .dget (.loc 2) [(.loc 3),(.list [])]),
 .for1 5 (.range [(.neg (.cint 1)),(.bin .add (.bi .len [(.loc 4)]) (.cint 2))])
  [
  .asg 6 (.bin .add (.bin .add (.bin .add (.loc 3) (.cstr [64,123])) (.bi .str [(.loc 5)])) (.cstr [125])),
  .ite (.cmp2 .le .lt (.cint 0) (.loc 5) (.bi .len [(.loc 4)]))
   [
   .asg 6 (.sub (.sub (.loc 4) (.bin .sub (.neg (.cint 1)) (.loc 5))) (.cint 1))]
   [
   .ite (.and (.cmp .eq (.loc 5) (.bi .len [(.loc 4)])) (.and (.cmp .ne (.loc 4) (.list [])) (.cmp .ne (.sub (.sub (.loc 4) (.cint 0)) (.cint 0)) (.callF KM [(.cint 0)]))))
    [
    .asg 6 (.sub (.sub (.loc 4) (.cint 0)) (.cint 0))]
    []],
  .ite (.cmp .ne (.callF KR [(.loc 1),(.loc 3),(.loc 5),(.cbool false)]) (.loc 6))
   [
   .ret (.cbool false)]
   []],
 .for1 7 (.e (.list [(.cint 999),(.bin .add (.cint 1000) (.callF kw [(.loc 0),(.cint 40)])),(.cint 1040)]))
  [
  .asg 8 (.comp [7] (.e (.loc 4)) (some (.cmp .le (.sub (.loc 0) (.cint 4)) (.loc 1))) (.sub (.loc 0) (.cint 1))),
  .asg 6 (.bin .add (.bin .add (.bin .add (.loc 3) (.cstr [64,123])) (.bi .str [(.loc 7)])) (.cstr [125])),
  .ite (.cmp .ne (.loc 8) (.list []))
   [
   .asg 6 (.sub (.loc 8) (.neg (.cint 1)))]
   [
   .ite (.cmp .ne (.loc 4) (.list []))
    [
    .asg 6 (.ife (.cmp .ne (.sub (.sub (.loc 4) (.cint 0)) (.cint 0)) (.callF KM [(.cint 0)])) (.sub (.sub (.loc 4) (.cint 0)) (.cint 0)) (.sub (.sub (.loc 4) (.cint 0)) (.cint 1)))]
    []],
  .ite (.cmp .ne (.callF KR [(.loc 1),(.loc 3),(.loc 7),(.cbool true)]) (.loc 6))
   [
   .ret (.cbool false)]
   []],
 .ret (.cbool true)]⟩
noncomputable def wG:List PySem.Str:=["deck","disk","model","name","rows","n","due","moment","found"]
noncomputable def qp:IFn:=⟨3,[],14,
 [
 .asgT [3,4] (.tup [(.callF Kq [(.loc 0),(.callF KG [])]),(.callF kw [(.loc 0),(.cint 8)])]),
 .asgT [5,6] (.tup [(.meth .dget (.loc 2) [(.loc 3),(.list [])]),(.new kh [(.loc 1),(.cbytes [46,103,105,116,47,108,111,103,115]),(.cint 4)])]),
 .ite (.cmp .lt (.loc 4) (.cint 5))
  [
  .ite (.not (.callF jD [(.loc 0),(.loc 1),(.loc 2),(.loc 3)]))
   [
   .ret (.cbool false)]
   []]
  [
  .ite (.and (.cmp .eq (.loc 4) (.cint 5)) (.cmp .ne (.loc 5) (.list [])))
   [
   .asg 7 (.bin .add (.cbytes [46,103,105,116,47,108,111,103,115,47]) (.bi .bytes [(.comp [] (.e (.loc 3)) none (.bi .ord [(.loc 0)]))])),
   .expr (.imeth ko jf [97,112,112,101,110,100] (.loc 1) [(.loc 7),(.slice (.cbytes [48,48,48,55,48,49,48,49,32,48,48,48,55,48,49]) none (some (.bin .add (.cint 1) (.callF kw [(.loc 0),(.cint 15)]))))])]
   [
   .ite (.cmp .eq (.loc 4) (.cint 6))
    [
    .asgT [8,9] (.tup [(.bin .add (.cint 1000) (.callF kw [(.loc 0),(.cint 41)])),(.cmp .eq (.callF kw [(.loc 0),(.cint 2)]) (.cint 0))]),
    .asg 10 (.callF jR [(.loc 5),(.loc 8),(.loc 9)]),
    .asg 11 (.ife (.loc 9) (.lam Wt wa k4p) .cnone),
    .ite (.cmp .isin (.loc 3) (.loc 2))
     [
     .asg 12 (.imeth ko KS [99,111,112,121] (.loc 1) []),
     .setA ko [108,101,102,116] (.loc 12) (.callF kw [(.loc 0),(.cint 5)]),
     .tryE
      [
      .expr (.imeth kh kL [101,120,112,105,114,101] (.new kh [(.loc 12),(.cbytes [46,103,105,116,47,108,111,103,115]),(.cint 4)]) [(.loc 3),(.loc 8),(.loc 11)])] Qv none
      [
      .pass],
     .setA ko [108,101,102,116] (.loc 12) .cnone,
     .ite (.or (.cmp .notin (.callF kP [(.loc 12),(.loc 3)]) (.list [(.loc 5),(.loc 10)])) (.cmp .ne (.imeth kh kL [101,120,112,105,114,101] (.loc 6) [(.loc 3),(.loc 8),(.loc 11)]) (.bin .sub (.bi .len [(.loc 5)]) (.bi .len [(.loc 10)]))))
      [
      .ret (.cbool false)]
      [],
     .setI (.loc 2) (.loc 3) (.loc 10)]
     []]
    [
    .expr (.imeth kh kM [114,101,109,111,118,101] (.loc 6) [(.loc 3)]),
    .expr (.meth .dpop (.loc 2) [(.loc 3),.cnone])]]],
 .for1 13 (.e (.list [(.loc 3),(.callF Kq [(.loc 0),(.callF KG [])])]))
  [
  .ite (.cmp .ne (.callF kP [(.loc 1),(.loc 13)]) (.meth .dget (.loc 2) [(.loc 13),(.list [])]))
   [
   .ret (.cbool false)]
   []],
 .ret (.cbool true)]⟩
noncomputable def WB:List PySem.Str:=["deck","disk","model","name","way","rows","logs","path","before","is_wanted","kept","keeps","wreck","other"]
noncomputable def K0p:IFn:=⟨1,[],5,
 [
 .asgT [1,2,3] (.tup [(.callF wg [(.loc 0)]),(.new ko []),(.dict [])]),
 .for1 4 (.range [(.bin .add (.cint 2) (.callF kw [(.loc 1),(.cint 4)]))])
  [
  .ite (.not (.callF jc [(.loc 1),(.loc 2),(.loc 3)]))
   [
   .ret (.cbool false)]
   []],
 .ite (.cmp .ne (.comp [2,3] (.e (.callF KG [])) (some (.cmp .ne (.callF kP [(.loc 1),(.loc 0)]) (.meth .dget (.loc 2) [(.loc 0),(.list [])]))) (.loc 0)) (.list []))
  [
  .ret (.cbool false)]
  [],
 .ret (.callF Kl [(.loc 1),(.loc 2),(.loc 3),(.callF Kq [(.loc 1),(.or (.comp [3] (.e (.callF KG [])) (some (.cmp .isin (.loc 0) (.loc 1))) (.loc 0)) (.list [(.cstr [72,69,65,68])]))])])]⟩
noncomputable def K1i:List PySem.Str:=["script","deck","disk","model","turn"]
noncomputable def jO:IFn:=⟨5,[],5,
 [
 .setA kO [110,97,109,101] (.loc 0) (.loc 1),
 .setA kO [101,109,97,105,108] (.loc 0) (.loc 2),
 .setA kO [119,104,101,110] (.loc 0) (.loc 3),
 .setA kO [122,111,110,101] (.loc 0) (.loc 4)]⟩
noncomputable def WC:List PySem.Str:=["self","name","email","when","zone"]
noncomputable def Qi:IFn:=⟨1,[],1,
 [
 .ret (.bin .add (.bin .add (.bin .add (.bin .add (.bin .add (.bin .add (.attr kO [110,97,109,101] (.loc 0)) (.cbytes [32,60])) (.attr kO [101,109,97,105,108] (.loc 0))) (.cbytes [62,32])) (.callF js [(.bi .str [(.attr kO [119,104,101,110] (.loc 0))])])) (.cbytes [32])) (.attr kO [122,111,110,101] (.loc 0)))]⟩
noncomputable def YD:List PySem.Str:=["self"]
noncomputable def Ql:IFn:=⟨1,[],1,
 [
 .setA ko [108,101,102,116] (.loc 0) .cnone,
 .setA ko [102,105,108,101,115] (.loc 0) (.dict []),
 .setA ko [98,101,108,111,119] (.loc 0) (.dict [])]⟩
noncomputable def za:List PySem.Str:=["self"]
noncomputable def zj:IFn:=⟨2,[],2,
 [
 .ret (.sub (.imeth ko jm [102,105,108,101,95,97,116] (.loc 0) [(.loc 1)]) (.cint 0))]⟩
noncomputable def k0C:List PySem.Str:=["self","path"]
noncomputable def zR:IFn:=⟨2,[],2,
 [
 .ret (.cmp .isin (.loc 1) (.attr ko [102,105,108,101,115] (.loc 0)))]⟩
noncomputable def k2Q:List PySem.Str:=["self","path"]
noncomputable def qV:IFn:=⟨2,[],2,
 [
 .ret (.or (.cmp .eq (.loc 1) (.cbytes [])) (.cmp .isin (.loc 1) (.attr ko [98,101,108,111,119] (.loc 0))))]⟩
noncomputable def yE:List PySem.Str:=["self","path"]
noncomputable def YS:IFn:=⟨2,[],7,
 [
 .asgT [2,3] (.tup [(.list []),(.list [(.loc 1)])]),
 .while (.cmp .ne (.loc 3) (.list []))
  [
  .asg 4 (.meth .lpop (.loc 3) []),
  .for1 5 (.e (.meth .dget (.attr ko [98,101,108,111,119] (.loc 0)) [(.loc 4),(.dict [])]))
   [
   .asg 6 (.callF qD [(.loc 4),(.loc 5)]),
   .ite (.cmp .isin (.loc 6) (.attr ko [102,105,108,101,115] (.loc 0)))
    [
    .expr (.meth .lappend (.loc 2) [(.loc 6)])]
    [
    .expr (.meth .lappend (.loc 3) [(.loc 6)])]]],
 .ret (.bi .sorted [(.loc 2)])]⟩
noncomputable def k0w:List PySem.Str:=["self","folder","found","waiting","here","name","path"]
noncomputable def QN:IFn:=⟨2,[],2,
 [
 .ite (.cmp .notin (.loc 1) (.attr ko [102,105,108,101,115] (.loc 0)))
  [
  .raise JA [(.loc 1)]]
  [],
 .ret (.sub (.attr ko [102,105,108,101,115] (.loc 0)) (.loc 1))]⟩
noncomputable def zF:List PySem.Str:=["self","path"]
noncomputable def Yy:IFn:=⟨1,[],1,
 [
 .ite (.cmp .isnot (.attr ko [108,101,102,116] (.loc 0)) .cnone)
  [
  .ite (.cmp .le (.attr ko [108,101,102,116] (.loc 0)) (.cint 0))
   [
   .raise Qv []]
   [],
  .augA ko [108,101,102,116] .sub (.loc 0) (.cint 1)]
  []]⟩
noncomputable def k0W:List PySem.Str:=["self"]
noncomputable def Qw:IFn:=⟨4,[.int 33188],4,
 [
 .expr (.imeth ko Km [99,104,101,99,107,95,112,108,97,99,101] (.loc 0) [(.loc 1)]),
 .expr (.imeth ko KF [100,101,101,100] (.loc 0) []),
 .expr (.imeth ko KQ [107,101,101,112] (.loc 0) [(.loc 1),(.slice (.loc 2) none (some (.bin .fdiv (.bi .len [(.loc 2)]) (.cint 2)))),(.loc 3)]),
 .expr (.imeth ko KF [100,101,101,100] (.loc 0) []),
 .expr (.imeth ko KQ [107,101,101,112] (.loc 0) [(.loc 1),(.loc 2),(.loc 3)])]⟩
noncomputable def uZ:List PySem.Str:=["self","path","octets","mode"]
noncomputable def wT:IFn:=⟨3,[],5,
 [
 .expr (.imeth ko Km [99,104,101,99,107,95,112,108,97,99,101] (.loc 0) [(.loc 1)]),
 .asgT [3,4] (.meth .dget (.attr ko [102,105,108,101,115] (.loc 0)) [(.loc 1),(.tup [(.cbytes []),(.glob (.int 33188))])]),
 .expr (.imeth ko KF [100,101,101,100] (.loc 0) []),
 .expr (.imeth ko KQ [107,101,101,112] (.loc 0) [(.loc 1),(.bin .add (.loc 3) (.slice (.loc 2) none (some (.bin .fdiv (.bi .len [(.loc 2)]) (.cint 2))))),(.loc 4)]),
 .expr (.imeth ko KF [100,101,101,100] (.loc 0) []),
 .expr (.imeth ko KQ [107,101,101,112] (.loc 0) [(.loc 1),(.bin .add (.loc 3) (.loc 2)),(.loc 4)])]⟩
noncomputable def ZL:List PySem.Str:=["self","path","octets","old","mode"]
noncomputable def wK:IFn:=⟨3,[],5,
 [
 .asgT [3,4] (.imeth ko jm [102,105,108,101,95,97,116] (.loc 0) [(.loc 1)]),
 .ite (.cmp .eq (.loc 1) (.loc 2))
  [
  .expr (.imeth ko KF [100,101,101,100] (.loc 0) []),
  .ret .cnone]
  [],
 .expr (.imeth ko Km [99,104,101,99,107,95,112,108,97,99,101] (.loc 0) [(.loc 2)]),
 .expr (.imeth ko KF [100,101,101,100] (.loc 0) []),
 .expr (.imeth ko Jo [102,111,114,103,101,116] (.loc 0) [(.loc 1)]),
 .expr (.imeth ko KQ [107,101,101,112] (.loc 0) [(.loc 2),(.loc 3),(.loc 4)])]⟩
noncomputable def ZP:List PySem.Str:=["self","old","new","octets","mode"]
noncomputable def Wo:IFn:=⟨2,[],2,
 [
 .expr (.imeth ko jm [102,105,108,101,95,97,116] (.loc 0) [(.loc 1)]),
 .expr (.imeth ko KF [100,101,101,100] (.loc 0) []),
 .expr (.imeth ko Jo [102,111,114,103,101,116] (.loc 0) [(.loc 1)])]⟩
noncomputable def Zx:List PySem.Str:=["self","path"]
noncomputable def Jh:IFn:=⟨2,[],3,
 [
 .ite (.cmp .isin (.loc 1) (.attr ko [102,105,108,101,115] (.loc 0)))
  [
  .raise JA [(.loc 1)]]
  [],
 .for1 2 (.e (.imeth ko wi [119,97,108,107] (.loc 0) [(.loc 1)]))
  [
  .expr (.imeth ko Jk [114,101,109,111,118,101] (.loc 0) [(.loc 2)])]]⟩
noncomputable def QG:List PySem.Str:=["self","path","inner"]
noncomputable def Yv:IFn:=⟨1,[],5,
 [
 .asg 1 (.new ko []),
 .for1 2 (.e (.attr ko [102,105,108,101,115] (.loc 0)))
  [
  .asgT [3,4] (.sub (.attr ko [102,105,108,101,115] (.loc 0)) (.loc 2)),
  .expr (.imeth ko KQ [107,101,101,112] (.loc 1) [(.loc 2),(.loc 3),(.loc 4)])],
 .ret (.loc 1)]⟩
noncomputable def k0k:List PySem.Str:=["self","other","path","octets","mode"]
noncomputable def JK:IFn:=⟨2,[],4,
 [
 .ite (.cmp .isin (.loc 1) (.attr ko [98,101,108,111,119] (.loc 0)))
  [
  .raise JA [(.loc 1)]]
  [],
 .forT [2,3] (.e (.callF ji [(.loc 1)]))
  [
  .ite (.cmp .isin (.loc 2) (.attr ko [102,105,108,101,115] (.loc 0)))
   [
   .raise JA [(.loc 1)]]
   []]]⟩
noncomputable def Wn:List PySem.Str:=["self","path","folder","name"]
noncomputable def Yj:IFn:=⟨4,[],7,
 [
 .ite (.cmp .notin (.loc 1) (.attr ko [102,105,108,101,115] (.loc 0)))
  [
  .forT [4,5] (.e (.callF ji [(.loc 1)]))
   [
   .asg 6 (.meth .dsetdef (.attr ko [98,101,108,111,119] (.loc 0)) [(.loc 4),(.dict [])]),
   .setI (.loc 6) (.loc 5) (.bin .add (.meth .dget (.loc 6) [(.loc 5),(.cint 0)]) (.cint 1))]]
  [],
 .setI (.attr ko [102,105,108,101,115] (.loc 0)) (.loc 1) (.tup [(.bi .bytes [(.loc 2)]),(.loc 3)])]⟩
noncomputable def k0e:List PySem.Str:=["self","path","octets","mode","folder","name","names"]
noncomputable def wN:IFn:=⟨2,[],5,
 [
 .expr (.meth .dpop (.attr ko [102,105,108,101,115] (.loc 0)) [(.loc 1)]),
 .forT [2,3] (.e (.callF ji [(.loc 1)]))
  [
  .asg 4 (.sub (.attr ko [98,101,108,111,119] (.loc 0)) (.loc 2)),
  .augI .sub (.loc 4) (.loc 3) (.cint 1),
  .ite (.cmp .eq (.sub (.loc 4) (.loc 3)) (.cint 0))
   [
   .expr (.meth .dpop (.loc 4) [(.loc 3)])]
   [],
  .ite (.cmp .eq (.loc 4) (.dict []))
   [
   .expr (.meth .dpop (.attr ko [98,101,108,111,119] (.loc 0)) [(.loc 2)])]
   []]]⟩
noncomputable def ZZ:List PySem.Str:=["self","path","folder","name","names"]
noncomputable def Qq:IFn:=⟨3,[],3,
 [
 .setA Ke [100,105,115,107] (.loc 0) (.loc 1),
 .setA Ke [112,97,116,104] (.loc 0) (.loc 2),
 .setA Ke [108,111,99,107,95,112,97,116,104] (.loc 0) (.bin .add (.loc 2) (.glob (.bytes [46,108,111,99,107]))),
 .setA Ke [105,115,95,104,101,108,100] (.loc 0) (.cbool false)]⟩
noncomputable def YZ:List PySem.Str:=["self","disk","path"]
noncomputable def zn:IFn:=⟨1,[],1,
 [
 .ite (.or (.imeth ko QA [104,97,115] (.attr Ke [100,105,115,107] (.loc 0)) [(.attr Ke [108,111,99,107,95,112,97,116,104] (.loc 0))]) (.attr Ke [105,115,95,104,101,108,100] (.loc 0)))
  [
  .raise k0I [(.attr Ke [112,97,116,104] (.loc 0))]]
  [],
 .expr (.imeth ko jy [119,114,105,116,101] (.attr Ke [100,105,115,107] (.loc 0)) [(.attr Ke [108,111,99,107,95,112,97,116,104] (.loc 0)),(.cbytes [])]),
 .setA Ke [105,115,95,104,101,108,100] (.loc 0) (.cbool true)]⟩
noncomputable def k05:List PySem.Str:=["self"]
noncomputable def zO:IFn:=⟨3,[.int 33188],3,
 [
 .expr (.imeth Ke je [99,104,101,99,107,95,104,101,108,100] (.loc 0) []),
 .expr (.imeth ko jy [119,114,105,116,101] (.attr Ke [100,105,115,107] (.loc 0)) [(.attr Ke [108,111,99,107,95,112,97,116,104] (.loc 0)),(.loc 1),(.loc 2)])]⟩
noncomputable def k2R:List PySem.Str:=["self","octets","mode"]
noncomputable def wQ:IFn:=⟨1,[],1,
 [
 .expr (.imeth Ke je [99,104,101,99,107,95,104,101,108,100] (.loc 0) []),
 .expr (.imeth ko qB [114,101,110,97,109,101] (.attr Ke [100,105,115,107] (.loc 0)) [(.attr Ke [108,111,99,107,95,112,97,116,104] (.loc 0)),(.attr Ke [112,97,116,104] (.loc 0))]),
 .setA Ke [105,115,95,104,101,108,100] (.loc 0) (.cbool false)]⟩
noncomputable def uo:List PySem.Str:=["self"]
noncomputable def qa:IFn:=⟨1,[],1,
 [
 .ite (.not (.attr Ke [105,115,95,104,101,108,100] (.loc 0)))
  [
  .raise k22 [(.cstr [110,111,32,108,111,99,107])]]
  []]⟩
noncomputable def Wy:List PySem.Str:=["self"]
noncomputable def Jw:IFn:=⟨5,[],5,
 [
 .setA ki [111,108,100] (.loc 0) (.loc 1),
 .setA ki [110,101,119] (.loc 0) (.loc 2),
 .setA ki [112,101,114,115,111,110] (.loc 0) (.loc 3),
 .setA ki [109,101,115,115,97,103,101] (.loc 0) (.loc 4)]⟩
noncomputable def wu:List PySem.Str:=["self","old","new","person","message"]
noncomputable def qm:IFn:=⟨1,[],2,
 [
 .asg 1 (.bin .add (.callF js [(.bin .add (.bin .add (.bin .add (.callF yL [(.attr ki [111,108,100] (.loc 0))]) (.cstr [32])) (.callF yL [(.attr ki [110,101,119] (.loc 0))])) (.cstr [32]))]) (.imeth kO JC [111,99,116,101,116,115] (.attr ki [112,101,114,115,111,110] (.loc 0)) [])),
 .ret (.bin .add (.bin .add (.loc 1) (.ife (.cmp .ne (.attr ki [109,101,115,115,97,103,101] (.loc 0)) (.cstr [])) (.callF js [(.bin .add (.cstr [9]) (.attr ki [109,101,115,115,97,103,101] (.loc 0)))]) (.cbytes []))) (.cbytes [10]))]⟩
noncomputable def WI:List PySem.Str:=["self","row"]
noncomputable def KZ:IFn:=⟨4,[],4,
 [
 .setA kh [100,105,115,107] (.loc 0) (.loc 1),
 .setA kh [102,111,108,100,101,114] (.loc 0) (.loc 2),
 .setA kh [115,105,122,101] (.loc 0) (.loc 3)]⟩
noncomputable def WL:List PySem.Str:=["self","disk","folder","size"]
noncomputable def qR:IFn:=⟨2,[],2,
 [
 .ret (.ife (.cmp .eq (.attr kh [102,111,108,100,101,114] (.loc 0)) (.cbytes [])) (.callF js [(.loc 1)]) (.bin .add (.bin .add (.attr kh [102,111,108,100,101,114] (.loc 0)) (.cbytes [47])) (.callF js [(.loc 1)])))]⟩
noncomputable def yy:List PySem.Str:=["self","name"]
noncomputable def yc:IFn:=⟨2,[],3,
 [
 .asg 2 (.imeth kh kA [112,97,116,104,95,111,102] (.loc 0) [(.loc 1)]),
 .ret (.and (.imeth ko QA [104,97,115] (.attr kh [100,105,115,107] (.loc 0)) [(.loc 2)]) (.not (.imeth ko jo [105,115,95,102,111,108,100,101,114] (.attr kh [100,105,115,107] (.loc 0)) [(.loc 2)])))]⟩
noncomputable def uA:List PySem.Str:=["self","name","path"]
noncomputable def JY:IFn:=⟨2,[],3,
 [
 .ite (.not (.imeth kh jA [104,97,115] (.loc 0) [(.loc 1)]))
  [
  .ret (.cbytes [])]
  [],
 .asg 2 (.imeth ko qy [114,101,97,100] (.attr kh [100,105,115,107] (.loc 0)) [(.imeth kh kA [112,97,116,104,95,111,102] (.loc 0) [(.loc 1)])]),
 .ret (.slice (.loc 2) none (some (.bin .add (.meth .brfind (.loc 2) [(.cbytes [10])]) (.cint 1))))]⟩
noncomputable def Wx:List PySem.Str:=["self","name","octets"]
noncomputable def Qc:IFn:=⟨3,[],4,
 [
 .asg 3 (.new Ke [(.attr kh [100,105,115,107] (.loc 0)),(.imeth kh kA [112,97,116,104,95,111,102] (.loc 0) [(.loc 1)])]),
 .expr (.imeth Ke YB [116,97,107,101] (.loc 3) []),
 .expr (.imeth Ke zY [112,117,116] (.loc 3) [(.loc 2)]),
 .expr (.imeth Ke Wa [99,111,109,109,105,116] (.loc 3) [])]⟩
noncomputable def yB:List PySem.Str:=["self","name","octets","lock"]
noncomputable def JO:IFn:=⟨2,[],4,
 [
 .ite (.imeth ko jo [105,115,95,102,111,108,100,101,114] (.attr kh [100,105,115,107] (.loc 0)) [(.imeth kh kA [112,97,116,104,95,111,102] (.loc 0) [(.loc 1)])])
  [
  .expr (.imeth ko jh [114,101,109,111,118,101,95,102,111,108,100,101,114] (.attr kh [100,105,115,107] (.loc 0)) [(.imeth kh kA [112,97,116,104,95,111,102] (.loc 0) [(.loc 1)])])]
  [],
 .asg 2 (.meth .ssplit (.loc 1) [(.cstr [47])]),
 .for1 3 (.range [(.cint 1),(.bi .len [(.loc 2)])])
  [
  .expr (.imeth kh kM [114,101,109,111,118,101] (.loc 0) [(.meth .sjoin (.cstr [47]) [(.slice (.loc 2) none (some (.loc 3)))])])]]⟩
noncomputable def wY:List PySem.Str:=["self","name","parts","many"]
noncomputable def WX:IFn:=⟨6,[],8,
 [
 .expr (.imeth kh jB [99,108,101,97,114,95,119,97,121] (.loc 0) [(.loc 1)]),
 .asg 6 (.imeth ki Kd [111,99,116,101,116,115] (.new ki [(.loc 2),(.loc 3),(.loc 4),(.meth .sjoin (.cstr [32]) [(.meth .ssplit (.loc 5) [])])]) []),
 .asg 7 (.imeth kh KA [102,105,110,105,115,104,101,100] (.loc 0) [(.loc 1)]),
 .ite (.and (.imeth kh jA [104,97,115] (.loc 0) [(.loc 1)]) (.cmp .ne (.bi .len [(.imeth ko qy [114,101,97,100] (.attr kh [100,105,115,107] (.loc 0)) [(.imeth kh kA [112,97,116,104,95,111,102] (.loc 0) [(.loc 1)])])]) (.bi .len [(.loc 7)])))
  [
  .expr (.imeth kh jp [114,101,112,108,97,99,101] (.loc 0) [(.loc 1),(.bin .add (.loc 7) (.loc 6))])]
  [
  .expr (.imeth ko jf [97,112,112,101,110,100] (.attr kh [100,105,115,107] (.loc 0)) [(.imeth kh kA [112,97,116,104,95,111,102] (.loc 0) [(.loc 1)]),(.loc 6)])]]⟩
noncomputable def Uk:List PySem.Str:=["self","name","old","new","person","message","row","kept"]
noncomputable def Qb:IFn:=⟨2,[],3,
 [
 .asg 2 (.meth .bsplit (.imeth kh KA [102,105,110,105,115,104,101,100] (.loc 0) [(.loc 1)]) [(.cbytes [10])]),
 .ret (.comp [0] (.e (.slice (.loc 2) none (some (.neg (.cint 1))))) none (.callF jV [(.loc 0),(.attr kh [115,105,122,101] (.loc 1))]))]⟩
noncomputable def yu:List PySem.Str:=["self","name","rows"]
noncomputable def zw:IFn:=⟨3,[],4,
 [
 .asg 3 (.imeth kh Kk [101,110,116,114,105,101,115] (.loc 0) [(.loc 1)]),
 .ite (.cmp2 .le .lt (.cint 0) (.loc 2) (.bi .len [(.loc 3)]))
  [
  .ret (.attr ki [110,101,119] (.sub (.loc 3) (.bin .sub (.bin .sub (.bi .len [(.loc 3)]) (.cint 1)) (.loc 2))))]
  [],
 .ite (.and (.cmp .eq (.loc 2) (.bi .len [(.loc 3)])) (.and (.cmp .ne (.loc 3) (.list [])) (.cmp .ne (.attr ki [111,108,100] (.sub (.loc 3) (.cint 0))) (.callF JZ [(.attr kh [115,105,122,101] (.loc 0))]))))
  [
  .ret (.attr ki [111,108,100] (.sub (.loc 3) (.cint 0)))]
  [],
 .raise Kn [(.bin .add (.bin .add (.bin .add (.loc 1) (.cstr [64,123])) (.bi .str [(.loc 2)])) (.cstr [125]))]]⟩
noncomputable def k0A:List PySem.Str:=["self","name","number","entries"]
noncomputable def qZ:IFn:=⟨3,[],6,
 [
 .asg 3 (.imeth kh Kk [101,110,116,114,105,101,115] (.loc 0) [(.loc 1)]),
 .ite (.cmp .eq (.loc 3) (.list []))
  [
  .raise Kn [(.bin .add (.bin .add (.bin .add (.loc 1) (.cstr [64,123])) (.bi .str [(.loc 2)])) (.cstr [125]))]]
  [],
 .for1 4 (.e (.rev (.loc 3)))
  [
  .ite (.cmp .le (.attr kO [119,104,101,110] (.attr ki [112,101,114,115,111,110] (.loc 4))) (.loc 2))
   [
   .ret (.attr ki [110,101,119] (.loc 4))]
   []],
 .asg 5 (.sub (.loc 3) (.cint 0)),
 .ret (.ife (.cmp .eq (.attr ki [111,108,100] (.loc 5)) (.callF JZ [(.attr kh [115,105,122,101] (.loc 0))])) (.attr ki [110,101,119] (.loc 5)) (.attr ki [111,108,100] (.loc 5)))]⟩
noncomputable def yr:List PySem.Str:=["self","name","when","entries","entry","first"]
noncomputable def Qy:IFn:=⟨4,[.none],9,
 [
 .asgT [4,5] (.tup [(.list []),(.cint 0)]),
 .for1 6 (.e (.imeth kh Kk [101,110,116,114,105,101,115] (.loc 0) [(.loc 1)]))
  [
  .ite (.and (.cmp .lt (.attr kO [119,104,101,110] (.attr ki [112,101,114,115,111,110] (.loc 6))) (.loc 2)) (.or (.cmp .is (.loc 3) .cnone) (.not (.callL 3 [(.loc 6)]))))
   [
   .asg 5 (.bin .add (.loc 5) (.cint 1))]
   [
   .expr (.meth .lappend (.loc 4) [(.loc 6)])]],
 .ite (.cmp .gt (.loc 5) (.cint 0))
  [
  .asgT [7,8] (.tup [(.list []),(.callF JZ [(.attr kh [115,105,122,101] (.loc 0))])]),
  .for1 6 (.e (.loc 4))
   [
   .expr (.meth .lappend (.loc 7) [(.imeth ki Kd [111,99,116,101,116,115] (.new ki [(.ife (.cmp .ne (.loc 7) (.list [])) (.loc 8) (.attr ki [111,108,100] (.loc 6))),(.attr ki [110,101,119] (.loc 6)),(.attr ki [112,101,114,115,111,110] (.loc 6)),(.attr ki [109,101,115,115,97,103,101] (.loc 6))]) [])]),
   .asg 8 (.attr ki [110,101,119] (.loc 6))],
  .expr (.imeth kh jp [114,101,112,108,97,99,101] (.loc 0) [(.loc 1),(.meth .bjoin (.cbytes []) [(.loc 7)])])]
  [],
 .ret (.loc 5)]⟩
noncomputable def Ya:List PySem.Str:=["self","name","before","keeps","kept","gone","entry","rows","old"]
noncomputable def Jz:IFn:=⟨2,[],2,
 [
 .ite (.imeth kh jA [104,97,115] (.loc 0) [(.loc 1)])
  [
  .expr (.imeth ko Jk [114,101,109,111,118,101] (.attr kh [100,105,115,107] (.loc 0)) [(.imeth kh kA [112,97,116,104,95,111,102] (.loc 0) [(.loc 1)])])]
  []]⟩
noncomputable def YE:List PySem.Str:=["self","name"]
noncomputable def k78:List (Addr×IFn×List PySem.Str):=[
 (qh,Uq,k4B),
 (js,YQ,k0B),
 (yL,k15,k7k),
 (qJ,YN,k0t),
 (jC,Qp,zf),
 (JZ,uL,k43),
 (we,Yf,k0V),
 (qP,zt,k01),
 (jK,qg,WD),
 (Jc,Qa,yt),
 (qw,wy,un),
 (ji,QO,zE),
 (qD,yT,UY),
 (jV,qQ,yI),
 (wg,Yz,k0c),
 (kw,zb,k0J),
 (Kq,yV,k0h),
 (KM,zZ,k2Y),
 (KG,Yn,k02),
 (Jb,qS,yG),
 (JR,QR,zI),
 (wm,YU,UW),
 (kP,YO,k0Y),
 (WF,Zi,k2A),
 (jL,zV,k3d),
 (kX,YC,k0n),
 (jD,JN,wJ),
 (jR,QP,zB),
 (KR,Ub,k3O),
 (Kl,JJ,wG),
 (jc,qp,WB),
 (k0y,K0p,K1i),
 (ja,jO,WC),
 (JC,Qi,YD),
 (Jy,Ql,za),
 (qy,zj,k0C),
 (QA,zR,k2Q),
 (jo,qV,yE),
 (wi,YS,k0w),
 (jm,QN,zF),
 (KF,Yy,k0W),
 (jy,Qw,uZ),
 (jf,wT,ZL),
 (qB,wK,ZP),
 (Jk,Wo,Zx),
 (jh,Jh,QG),
 (KS,Yv,k0k),
 (Km,JK,Wn),
 (KQ,Yj,k0e),
 (Jo,wN,ZZ),
 (JB,Qq,YZ),
 (YB,zn,k05),
 (zY,zO,k2R),
 (Wa,wQ,uo),
 (je,qa,Wy),
 (jt,Jw,wu),
 (Kd,qm,WI),
 (Ky,KZ,WL),
 (kA,qR,yy),
 (jA,yc,uA),
 (KA,JY,Wx),
 (jp,Qc,yB),
 (jB,JO,wY),
 (Qe,WX,Uk),
 (Kk,Qb,yu),
 (wk,zw,k0A),
 (jU,qZ,yr),
 (kL,Qy,Ya),
 (kM,Jz,YE)]
noncomputable def k4m:List (Addr×Addr):=[(kO,ja),(ko,Jy),(Ke,JB),(ki,jt),(kh,Ky)]
noncomputable def Yd (f:Addr):Option IFn:=if f=qU then some (k5J ki) else (k78.find? fun x=>x.1==f).map fun x=>x.2.1
noncomputable def kU (C:Addr):Option Addr:=(k4m.find? fun x=>x.1==C).map (·.2)
noncomputable def K2l (K:Frag) (fd:FuncData) (f:Addr) (vs:List PySem.Str):Ctx:=⟨K,fd.scope.names,vs,kU,if f==jc then some (682,Wt,k4p) else none⟩
noncomputable def K0q (K:Frag) (x:Addr×Addr):Bool:=x.2 != qU&&makesIn K x.1&&findIn K (.ref x.1) "__init__" == some (some (.ref x.2))&&typeIn K (.ref x.2)==some (.type "function")
end
section
open PySem PySem.W
noncomputable abbrev By:=List UInt8
noncomputable abbrev Tx:=List Nat
noncomputable def Fr (W:Addr→Prop) (σ σ':Sto):Prop:=∃ pre:Sto,σ'=pre++σ∧∀ p∈pre,W p.1∨¬ σ.has p.1
noncomputable abbrev New (σ σ':Sto):Prop:=Fr (fun z9=>False) σ σ'
section
variable {W W':Addr→Prop} {σ σ₁ σ₂:Sto} {a r:Addr} {c c':yO}
theorem Fr.refl:Fr W σ σ:=⟨[],rfl,fun z9 m=>nomatch m⟩
theorem Sto.has_of (h:σ.get a=some c):σ.has a:=fun e=>by rw[h] at e;injection e
theorem Fr.pre_has (h:Fr W σ σ₁) (q:σ.has a):σ₁.has a:=by
 refine x11 h ?_;clear h;intro pre zr1 h;subst zr1
 by_cases m:a∈pre.map (·.1)
 ·exact Sto.has_pre m
 ·show Sto.get (pre++σ) a≠none
  refine er (Sto.get_pre m) ?_;exact q
theorem Fr.nhas (h:Fr W σ σ₁) (q:¬ σ₁.has a):¬ σ.has a:=fun e=>q (h.pre_has e)
theorem Fr.trans (h:Fr W σ σ₁) (k:Fr W' σ₁ σ₂) (o:∀ a,W' a→W a∨¬ σ.has a):Fr W σ σ₂:=by
 have k0:=h
 refine x11 h ?_;clear h;intro p zr1 h;subst zr1
 refine x11 k ?_;clear k;intro q zr1 k;subst zr1
 refine ⟨q++p,(List.append_assoc ..).symm,fun x m=>?_⟩
 rcases List.mem_append.1 m with m | m
 ·exact (k x m).elim (fun e=>o _ e) fun e=>.inr (k0.nhas e)
 ·exact h x m
theorem Fr.mono (h:Fr W σ σ₁) (o:∀ a,W a→W' a∨¬ σ.has a):Fr W' σ σ₁:=by
 let ⟨p,e,h⟩:=h
 exact ⟨p,e,fun x m=>(h x m).elim (o _) .inr⟩
theorem Fr.tr (h:Fr W σ σ₁) (k:Fr W σ₁ σ₂):Fr W σ σ₂:=h.trans k fun z9=>.inl
theorem Fr.tn (h:Fr W σ σ₁) (k:New σ₁ σ₂):Fr W σ σ₂:=h.trans k fun z9 e=>e.elim
theorem Fr.nt (h:New σ σ₁) (k:Fr W σ₁ σ₂):Fr W σ σ₂:=(h.mono fun z9 e=>e.elim).tr k
theorem New.fr (h:New σ σ₁):Fr W σ σ₁:=h.mono fun z9 e=>e.elim
theorem Fr.set (h:Fr W σ σ₁) (o:W a∨¬ σ.has a):Fr W σ (σ₁.upd a c):=by
 refine x11 h ?_;clear h;intro p zr1 h;subst zr1
 exact ⟨(a,c)::p,rfl,fun x m=>(List.mem_cons.1 m).elim (fun e=>by refine er e ?_;exact o) (h x)⟩
theorem Fr.new (h:Fr W σ σ₁) (n:¬ σ₁.has a):Fr W σ (σ₁.upd a c):=h.set (.inr (h.nhas n))
theorem Fr.unt (h:Fr W σ σ₁) (n:¬ W a) (q:σ.has a):Unt a σ σ₁:=by
 refine x11 h ?_;clear h;intro p e h
 refine ⟨p,e,fun m=>?_⟩
 refine x11 (List.mem_map.1 m) fun x m' zr2=>?_;subst zr2
 exact (h x m').elim n fun e=>e q
theorem Fr.get (h:Fr W σ σ₁) (n:¬ W a) (q:σ.get a=some c):σ₁.get a=some c:=by
 refine x11 (h.unt n (Sto.has_of q)) fun p zr1 m=>?_;subst zr1
 refine er (Sto.get_pre m) ?_;exact q
theorem Fr.g (h:New σ σ₁) (q:σ.get a=some c):σ₁.get a=some c:=h.get id q
theorem Fr.u (h:New σ σ₁) (q:σ.get a=some c):Unt a σ σ₁:=h.unt id (Sto.has_of q)
theorem kb:(σ.upd a c).get a=some c:=by simp
theorem QT (n:¬ σ.has r) (q:σ.get a=some c):r≠a:=fun e=>n (e▸Sto.has_of q)
theorem qv (n:¬ σ.has r) (q:σ.get a=some c):(σ.upd r c').get a=some c:=by
 refine er (Sto.get_upd_ne _ _ (QT n q)) ?_;exact q
theorem KO (n:r≠a) (q:σ.get a=some c):(σ.upd r c').get a=some c:=by
 refine er (Sto.get_upd_ne _ _ n) ?_;exact q
theorem JW (q:σ.has a):(σ.upd r c').has a:=by
 show Sto.get _ _≠none
 rw[Sto.get_upd];split
 ·simp
 ·exact q
theorem yk:(σ.upd r c').has r:=Sto.has_of kb
end
structure Calls where
 C:Nat→jH
 step:∀ {n:Nat} {f:Addr} {xs:List V} {σ:Sto} {Q:QV} {X:QX} (fn:IFn) (ρ:Loc),Yd f=some fn→fn.bind xs=some ρ →
  exs (C n) kU fn.body ρ σ (fun o z9 σ=>Q (o.getD .none) σ) (fun z9 e σ=>X e σ)→C (n+1) f xs σ Q X
noncomputable def k63:Calls where
 C:=QW Yd kU
 step {n f xs σ Q X} fn ρ h hb k:=by
  show match Yd f with
   | some fn=>match fn.bind xs with
    | some ρ=>exs (QW Yd kU n) kU fn.body ρ σ (fun o z9 σ=>Q (o.getD .none) σ) (fun z9 e σ=>X e σ)
    | none=>False
   | none=>False
  refine er h ?_;show (match fn.bind xs with | some ρ=>_ | none=>False);refine er hb ?_;exact k
theorem kj {K:Calls} {n:Nat} {f:Addr} {xs:List V} {σ:Sto} {Q:QV} {X:QX} (fn:IFn) (ρ:Loc) (h:Yd f=some fn) (hb:fn.bind xs=some ρ)
  (k:exs (K.C n) kU fn.body ρ σ (fun o z9 σ=>Q (o.getD .none) σ) (fun z9 e σ=>X e σ)):K.C (n+1) f xs σ Q X:=K.step fn ρ h hb k
theorem k07 {b:Bool} {P R:Prop} (h:b=true) (k:P):(if b=true then P else R):=by refine er (if_pos h) ?_;exact k
theorem JH {b:Bool} {P R:Prop} (h:b=false) (k:R):(if b=true then P else R):=by subst h;exact k
theorem Ku {b:Bool} {P R:Prop} (h:b=true→P) (k:b=false→R):(if b=true then P else R):=by
 cases b
 ·exact k rfl
 ·exact h rfl
theorem K2i {a b:Nat} {P:Prop} (h:Nat.blt a b=true) (k:P):a<b∧P:=⟨Nat.blt_eq.mp h,k⟩
theorem K1R {is:List Nat} {b:Nat} {P:Prop} (h:is.all (Nat.blt · b)=true) (k:P):(∀ i∈is,i<b)∧P:=⟨fun i m=>Nat.blt_eq.mp (List.all_eq_true.1 h i m),k⟩
theorem k9H {a b:Nat} {P:Prop} (h:Nat.ble a b=true) (k:P):a≤b∧P:=⟨Nat.le_of_ble_eq_true h,k⟩
section
variable {C a b d:Addr} {nm:List Nat} {kvs:List (V×V)} {x v:V} {σ σ':Sto} {Q:QV} {xs ys:List V} {k:Key} {i:Int} {R:Sto→Prop}
theorem uK {p n:Nat} (l:p<n):qA (p:Int) n=some p:=by
 unfold qA;refine er (if_pos (Int.natCast_nonneg _)) (er (if_pos (Int.ofNat_lt.2 l)) ?_);rfl
theorem YP {p:Nat} (h:p≤1000000):KI (p:Int):=⟨Int.lt_of_lt_of_le (by decide) (Int.natCast_nonneg p),Int.lt_of_le_of_lt (Int.ofNat_le.2 h) (by decide)⟩
theorem k0z {α:Type} {l:List α} {k:Nat}:JX l none (some (k:Nat))=l.take k:=by
 show (l.take (clipAt l.length (k:Nat))).drop 0=_
 rw[yP,List.drop_zero,List.take_eq_take_iff,Nat.min_assoc,Nat.min_self]
theorem K1n {α:Type} {l:List α} {k:Nat} (h:k≤l.length):JX l (some (k:Nat)) none=l.drop k:=by
 show (l.take l.length).drop (clipAt l.length (k:Nat))=_
 exact er yP (er List.take_length (er (Nat.min_eq_left h) rfl))
theorem k7G {α:Type} {l:List α} {i j:Nat} (h:j≤l.length) (hi:i≤j):JX l (some (i:Nat)) (some (j:Nat))=(l.take j).drop i:=by
 show (l.take (clipAt l.length (j:Nat))).drop (clipAt l.length (i:Nat))=_
 exact er yP (er yP (er (Nat.min_eq_left h) (er (Nat.min_eq_left (Nat.le_trans hi h)) rfl)))
theorem rng3 {a b c:Int} (h : -1000≤a∧a≤1000000 ∧ -1000≤b∧b≤1000000∧0<c∧c≤1000):ZQ [.int a,.int b,.int c]=some (Kf a b c):=if_pos ⟨rfl,h⟩
theorem k4q {P:Addr→List (V×V)→Prop} (h1:σ.get a=some (.inst C d)) (h2:σ.get d=some (.dict kvs)) (q:P d kvs):k1B C (.ref a) σ P:=okN h1 ⟨rfl,okD h2 q⟩
theorem k0j (h1:σ.get a=some (.inst C d)) (h2:σ.get d=some (.dict kvs)) (h3:kE kvs (.str nm)=some v) (q:Q v σ):wA C nm (.ref a) σ Q:=k4q h1 h2 (kN h3 q)
theorem k8z (h1:σ.get a=some (.inst C d)) (h2:σ.get d=some (.dict kvs)) (h3:kvs.length≤1000) (q:R (σ.upd d (.dict (Kr kvs (.str nm) v)))):uH C nm (.ref a) v σ R:=k4q h1 h2 ⟨h3,q⟩
theorem Qn (h1:σ.get a=some (.dict kvs)) (h3:kvs.length≤1000) (q:R (σ.upd a (.dict (Kr kvs k v)))):k1Z (.ref a) k.v v σ R:=okD h1 (kN (JI k) ⟨h3,q⟩)
theorem YF (h:σ.get a=some (.list xs)) (s:KI i) {p:Nat} (hp:qA i xs.length=some p) (q:Q (xs.getD p .none) σ):YH (.ref a) (.int i) σ Q:=by
 delta YH;dsimp only;refine er h ?_;exact kK (jk s) (kN hp q)
theorem jX (h:σ.get a=some (.dict kvs)) (h2:kE kvs k=some v) (q:Q v σ):YH (.ref a) k.v σ Q:=by
 delta YH;dsimp only;refine er h ?_;exact okD rfl (kN (JI k) (kN h2 q))
theorem jN (h:σ.get a=some (.list xs)) (l:xs.length≤kt) (q:Q (.int xs.length) σ):k9v .len [.ref a] σ Q:=okL h ⟨l,q⟩
theorem k6u (h:σ.get a=some (.dict kvs)):inV k.v (.ref a) σ=some (kE kvs k).isSome:=by
 delta inV;show (match asL (σ.get a) with | some xs=>_ | none=>_)=_
 refine er h ?_;exact congrArg (Option.map _) (JI k)
theorem ZU {x:V} (h:σ.get a=some (.list xs)):inV x (.ref a) σ=zG x σ xs:=by
 delta inV;show (match asL (σ.get a) with | some xs=>_ | none=>_)=_
 refine er h ?_;rfl
theorem qc {x:V} {p q:Bool} (h:eqV (.ref a) x σ=some p) (g:zG x σ xs=some q):zG x σ (.ref a::xs)=some (p||q):=by
 show (eqV (.ref a) x σ).bind (fun p=>(zG x σ xs).map (p||·))=_
 refine er h (er g ?_);rfl
theorem k54 {f:V→V→Option Bool} {x y:V} {p q:Bool} (h:f x y=some p) (g:Qo f xs ys=some q):Qo f (x::xs) (y::ys)=some (p&&q):=by
 show (f x y).bind (fun a=>(Qo f xs ys).map (a&&·))=_
 refine er h (er g ?_);rfl
theorem QY (h:σ.get a=some (.dict kvs)) {Q:Bool→Prop} (q:Q (kE kvs k).isSome):kT (inV k.v (.ref a) σ) Q:=kN (k6u h) q
theorem k3J (h:σ.get a=some (.list xs)) (h2:σ.get b=some (.list ys)):eqV (.ref a) (.ref b) σ=(if xs.length=ys.length then wo xs ys else some false):=by
 show (match asL (σ.get a) with | some xs=>_ | none=>_)=_
 refine er h ?_;show (asL (σ.get b)).bind _=_;refine er h2 ?_;rfl
theorem k4s (h:σ.get a=some (.list xs)) (h2:σ.get b=some (.list [])):eqV (.ref a) (.ref b) σ=some xs.isEmpty:=by
 refine er (k3J h h2) ?_;cases xs <;> rfl
theorem k8C (h:σ.get a=some (.dict kvs)) (h2:σ.get b=some (.dict [])):eqV (.ref a) (.ref b) σ=some kvs.isEmpty:=by
 show (match asL (σ.get a) with | some xs=>_ | none=>_)=_
 refine er h ?_;show (asD (σ.get b)).bind (fun ys=>if ys.isEmpty=true then some kvs.isEmpty else none)=_;refine er h2 ?_;rfl
theorem Yq (h:σ.get a=some (.list xs)):UB (.ref a) σ=true:=by show (asD (σ.get a)).isNone=true;refine er h ?_;rfl
theorem QJ {Q:Bool→Prop} (h:σ.get a=some (.list xs)) (h2:σ.get b=some (.list [])) (q:Q xs.isEmpty):UB (.ref b) σ=true∧kT (eqV (.ref a) (.ref b) σ) Q:=⟨Yq h2,kN (k4s h h2) q⟩
theorem k7A {Q:Bool→Prop} (h:σ.get a=some (.list xs)) (h2:σ.get b=some (.list [])) (q:Q xs.isEmpty):kT (eqV (.ref a) (.ref b) σ) Q:=kN (k4s h h2) q
theorem K0O {Q:Bool→Prop} (h:σ.get a=some (.dict kvs)) (h2:σ.get b=some (.dict [])) (q:Q kvs.isEmpty):kT (eqV (.ref a) (.ref b) σ) Q:=kN (k8C h h2) q
theorem k4o {lo hi:Option Int} (h:σ.get a=some (.list xs)) (l:xs.length≤kt) (q:∀ r,¬ σ.has r→Q (.ref r) (σ.upd r (.list (JX xs lo hi)))):wd (.ref a) lo hi σ Q:=okL h ⟨l,q⟩
theorem k7O (h:σ.get a=some (.list xs)) (l:xs.length≤kt) (q:∀ r,¬ σ.has r→Q (.ref r) (σ.upd r (.list xs.reverse))):k9e (.ref a) σ Q:=okL h ⟨l,q⟩
theorem k5x (h:σ.get a=some (.list xs)) (h2:σ.get b=some (.list ys)) (l:xs.length+ys.length≤kt) (q:∀ r,¬ σ.has r→Q (.ref r) (σ.upd r (.list (xs++ys)))):k0s .add (.ref a) (.ref b) σ Q:=okL h (okL h2 ⟨l,q⟩)
theorem Kj {R:Src→Prop} (h:σ.get a=some (.list xs)) (l:xs.length≤kt) (q:R ⟨xs,some a⟩):kT (ZR (.ref a) σ) R :=
 kN (by delta ZR;dsimp only;refine er h ?_;exact if_pos l) q
theorem k0q {R:Src→Prop} (h:σ.get a=some (.dict kvs)) (l:kvs.length≤kt) (q:R ⟨kvs.map (·.1),some a⟩):kT (ZR (.ref a) σ) R :=
 kN (by delta ZR;dsimp only;refine er h ?_;exact if_pos l) q
theorem Ja (h:σ.get a=some (.list xs)):uj .lappend (.ref a) σ=true∧uj .lpop (.ref a) σ=true:=by
 have e:(asL (σ.get a)).isSome=true:=by refine er h ?_;rfl
 exact ⟨e,e⟩
theorem jY (h:σ.get a=some (.dict kvs)):uj .dget (.ref a) σ=true∧uj .dsetdef (.ref a) σ=true∧uj .dpop (.ref a) σ=true:=by
 have e:(asD (σ.get a)).isSome=true:=by refine er h ?_;rfl
 exact ⟨e,e,e⟩
theorem jn (h:σ.get a=some (.list xs)) (l:xs.length<kt) (q:Q .none (σ.upd a (.list (xs++[v])))):jI .lappend (.ref a) [v] σ Q:=okL h ⟨l,q⟩
theorem k7u (h:σ.get a=some (.list (xs++[v]))) (l:xs.length<kt) (q:Q v (σ.upd a (.list xs))):jI .lpop (.ref a) [] σ Q :=
 okL h ⟨rfl,kN List.getLast?_concat ⟨by refine er List.length_append ?_;exact l,by refine er List.dropLast_concat ?_;exact q⟩⟩
theorem k4G (h:σ.get a=some (.dict kvs)) (q:Q ((kE kvs k).getD v) σ):jI .dget (.ref a) [k.v,v] σ Q:=okD h (kN (JI k) q)
theorem Qz {sep:Tx} {ts:List Tx} (h:σ.get a=some (.list (ts.map .str))) (l:(kR sep ts).length+sep.length≤kt) (q:Q (.str (kR sep ts)) σ):jI .sjoin (.str sep) [.ref a] σ Q :=
 okL h (kN (Qu (f:=qk) (g:=.str) (fun z9=>rfl) ts) ⟨l,q⟩)
theorem k6l {sep:By} {ts:List By} (h:σ.get a=some (.list (ts.map .bytes))) (l:(kR sep ts).length≤kt) (q:Q (.bytes (kR sep ts)) σ):jI .bjoin (.bytes sep) [.ref a] σ Q :=
 okL h (kN (Qu (f:=qC) (g:=.bytes) (fun z9=>rfl) ts) ⟨l,q⟩)
theorem K0Y {bs:List Bool} (h:σ.get a=some (.list (bs.map .bool))) (q:Q (.bool (bs.all id)) σ):k9v .all [.ref a] σ Q:=okL h (kN (Qu (f:=uD) (g:=.bool) (fun z9=>rfl) bs) q)
theorem qr {is:List Int} (h:σ.get a=some (.list (is.map .int))) (l:is.length≤kt) (r:∀ i∈is,0≤i∧i<256) (q:Q (.bytes (is.map fun i=>i.toNat.toUInt8)) σ):k9v .bytes [.ref a] σ Q :=
 okL h ⟨by refine er (List.length_map _) ?_;exact l,kN (Qu (f:=qF) (g:=.int) (fun z9=>rfl) is) ⟨r,q⟩⟩
theorem k42 (h:σ.get a=some (.list xs)) (l:xs.length≤1) (q:∀ r,¬ σ.has r→Q (.ref r) (σ.upd r (.list xs))):k9v .sorted [.ref a] σ Q:=okL h ⟨l,q⟩
end
theorem YI {g:Option Addr} {σ₀:Sto} {turn:V→Sto→(Option V→Sto→Prop)→Prop} {Q:QV} (I:List V→List V→Sto→Prop)
  (hs:∀ r acc σ,I r acc σ→jF g σ₀ σ)
  (step:∀ x r acc σ,I (x::r) acc σ→∀ K:Option V→Sto→Prop,(∀ v σ',I r (acc++[v]) σ'→K (some v) σ')→(∀ σ',I r acc σ'→K none σ')→turn x σ K)
  (done:∀ acc σ r,I [] acc σ→¬ σ.has r→Q (.ref r) (σ.upd r (.list acc))) (hl:∀ x r acc σ,I (x::r) acc σ→acc.length<kt) :
  ∀ {items acc:List V} {σ:Sto},I items acc σ→Kv g σ₀ turn items acc σ Q
 | [],acc,σ,i=>⟨hs _ _ _ i,fun r n=>done acc σ r i n⟩
 | x::r,acc,σ,i=>⟨hs _ _ _ i,step x r acc σ i _ (fun v σ' i'=>⟨hl _ _ _ _ i,YI I hs step done hl i'⟩) fun σ' i'=>YI I hs step done hl i'⟩
theorem wX {α:Type} {g:Option Addr} {σ₀:Sto} {turn:V→Sto→(Option V→Sto→Prop)→Prop} {Q:QV} (l:List α) {h:α→V} (f:α→V)
  (hg:∀ a,g=some a→σ₀.has a) (hl:l.length≤kt)
  (step:∀ x,x∈l→∀ σ,New σ₀ σ→∀ K:Option V→Sto→Prop,(∀ σ',New σ σ'→K (some (f x)) σ')→turn (h x) σ K)
  (done:∀ σ r,New σ₀ σ→¬ σ.has r→Q (.ref r) (σ.upd r (.list (l.map f)))):Kv g σ₀ turn (l.map h) [] σ₀ Q:=by
 refine YI (fun r acc σ=>New σ₀ σ∧∃ p q,l=p++q∧r=q.map h∧acc=p.map f) (fun r acc σ i=>?_) (fun x r acc σ i K k z9=>?_) (fun acc σ r i n=>?_) (fun x r acc σ i=>?_) ⟨.refl,[],l,rfl,rfl,rfl⟩
 ·cases g with
  | none=>trivial
  | some a=>exact i.1.unt id (hg a rfl)
 ·obtain ⟨n,zz0⟩:=i;refine x22 zz0 fun p q e er ea=>?_
  cases q with
  | nil=>injection er
  | cons y q =>
   cases er
   exact step y (by refine er e ?_;simp) σ n K fun σ' n'=>k _ _ ⟨n.tr n',p++[y],q,by refine er e ?_;simp,rfl,by refine er ea ?_;simp⟩
 ·obtain ⟨n',zz0⟩:=i;refine x22 zz0 fun p q e er ea=>?_
  cases q with
  | cons y q=>injection er
  | nil=>rw[List.append_nil] at e;rw[ea,← e];exact done σ r n' n
 ·obtain ⟨n,zz0⟩:=i;refine x22 zz0 fun p q e er ea=>?_
  cases q with
  | nil=>injection er
  | cons y q=>rw[e,List.length_append,List.length_cons] at hl;rw[ea,List.length_map];lia
theorem k1p {g:Option Addr} {σ₀:Sto} {turn:V→Loc→Sto→QS→Prop} {Q:QS} (I:List V→Loc→Sto→Prop)
  (hs:∀ r ρ σ,I r ρ σ→jF g σ₀ σ)
  (step:∀ x r ρ σ,I (x::r) ρ σ→∀ K:QS,(∀ ρ' σ',I r ρ' σ'→K none ρ' σ')→(∀ v ρ' σ',Q (some v) ρ' σ'→K (some v) ρ' σ')→turn x ρ σ K)
  (done:∀ ρ σ,I [] ρ σ→Q none ρ σ):∀ {items:List V} {ρ:Loc} {σ:Sto},I items ρ σ→KU g σ₀ turn items ρ σ Q
 | [],ρ,σ,i=>⟨hs _ _ _ i,done ρ σ i⟩
 | x::r,ρ,σ,i=>⟨hs _ _ _ i,step x r ρ σ i _ (fun z9 z9 i'=>k1p I hs step done i') fun v ρ' σ' q=>q⟩
theorem wq {α β:Type} {h:α→V} {g:Option Addr} {σ₀:Sto} {turn:V→Loc→Sto→QS→Prop} {Q:QS} (L:List α→β→Loc) (J:List α→Sto→Prop) {l:List α}
  (hs:∀ dn σ,J dn σ→jF g σ₀ σ)
  (step:∀ dn x q,l=dn++x::q→∀ o σ,J dn σ→∀ K:QS,(∀ o' ρ' σ',ρ'=L (dn++[x]) o'→J (dn++[x]) σ'→K none ρ' σ')→(∀ v ρ' σ',Q (some v) ρ' σ'→K (some v) ρ' σ')→turn (h x) (L dn o) σ K)
  (done:∀ o σ,J l σ→Q none (L l o) σ) (o:β) {σ:Sto} (i:J [] σ):KU g σ₀ turn (l.map h) (L [] o) σ Q:=by
 have z:∀ q dn,l=dn++q→∀ o σ,J dn σ→KU g σ₀ turn (q.map h) (L dn o) σ Q:=fun q=>by
  induction q with
  | nil=>exact fun dn e o σ i=>by rw[List.append_nil] at e;subst e;exact ⟨hs _ _ i,done o σ i⟩
  | cons x q ih=>exact fun dn e o σ i=>⟨hs _ _ i,step dn x q e o σ i _ (fun o' ρ' σ' r i'=>by refine er r ?_;exact ih _ (by refine er e ?_;refine er (List.append_assoc _ _ _) ?_;rfl) o' σ' i') fun z9 z9 z9 q=>q⟩
 exact z l [] rfl o σ i
theorem JM {α β:Type} {h:α→V} {g:Option Addr} {σ₀:Sto} {turn:V→Loc→Sto→QS→Prop} {Q:QS} (L:β→Loc) (J:β→Sto→Prop) {l:List α}
  (hs:∀ o σ,J o σ→jF g σ₀ σ)
  (step:∀ x,x∈l→∀ o σ,J o σ→∀ K:QS,(∀ o' ρ' σ',ρ'=L o'→J o' σ'→K none ρ' σ')→(∀ v ρ' σ',Q (some v) ρ' σ'→K (some v) ρ' σ')→turn (h x) (L o) σ K)
  (done:∀ o σ,J o σ→Q none (L o) σ) (o:β) {σ:Sto} (i:J o σ):KU g σ₀ turn (l.map h) (L o) σ Q:=by
 have z:∀ q:List α,(∀ x∈q,x∈l)→∀ o σ,J o σ→KU g σ₀ turn (q.map h) (L o) σ Q:=fun q=>by
  induction q with
  | nil=>exact fun z9 o σ i=>⟨hs _ _ i,done o σ i⟩
  | cons x q ih=>exact fun m o σ i=>⟨hs _ _ i,step x (m x List.mem_cons_self) o σ i _ (fun o' ρ' σ' r i'=>by refine er r ?_;exact ih (fun y k=>m y (List.mem_cons_of_mem _ k)) o' σ' i') fun z9 z9 z9 q=>q⟩
 exact z l (fun z9 m=>m) o σ i
theorem qd {α:Type} {h f:α→V} {g:Option Addr} {σ₀:Sto} {turn:V→Sto→(Option V→Sto→Prop)→Prop} {Q:QV} (p:α→Bool) {l:List α}
  (hg:∀ a,g=some a→σ₀.has a) (hl:l.length≤kt)
  (step:∀ x,x∈l→∀ σ,New σ₀ σ→∀ K:Option V→Sto→Prop,(p x=true→∀ σ',New σ σ'→K (some (f x)) σ')→(p x=false→∀ σ',New σ σ'→K none σ')→turn (h x) σ K)
  (done:∀ σ r,New σ₀ σ→¬ σ.has r→Q (.ref r) (σ.upd r (.list ((l.filter p).map f)))):Kv g σ₀ turn (l.map h) [] σ₀ Q:=by
 have st:∀ σ,New σ₀ σ→jF g σ₀ σ:=fun σ n=>by
  cases g with
  | none=>trivial
  | some a=>exact n.unt id (hg a rfl)
 have z:∀ q dn,l=dn++q→∀ σ,New σ₀ σ→Kv g σ₀ turn (q.map h) ((dn.filter p).map f) σ Q:=fun q=>by
  induction q with
  | nil=>exact fun dn e σ n=>by rw[List.append_nil] at e;subst e;exact ⟨st _ n,fun r hr=>done σ r n hr⟩
  | cons x q ih =>
   refine fun dn e σ n=>⟨st _ n,step x (by rw[e];exact List.mem_append_right _ List.mem_cons_self) σ n _ (fun t σ' n'=>?_) fun t σ' n'=>?_⟩
   ·refine And.intro ?_ ?_
    ·have w:=congrArg List.length e
     have w2:=List.length_filter_le p dn
     rw[List.length_append,List.length_cons] at w
     refine er (List.length_map _) ?_;lia
    ·have r:=ih (dn++[x]) (by refine er e ?_;refine er (List.append_assoc _ _ _) ?_;rfl) σ' (n.tr n')
     rw[List.filter_append,List.map_append,List.filter_cons_of_pos t] at r;exact r
   ·have r:=ih (dn++[x]) (by refine er e ?_;refine er (List.append_assoc _ _ _) ?_;rfl) σ' (n.tr n')
    rw[List.filter_append,List.filter_cons_of_neg (fun q=>Bool.noConfusion (t.symm.trans q)),List.filter_nil,List.append_nil] at r;exact r
 exact z l [] rfl σ₀ .refl
theorem k1Y {α:Type} {h:α→V} {g:Option Addr} {σ₀:Sto} {turn:V→Sto→(Option V→Sto→Prop)→Prop} {Q:QV} (J:List α→List V→Sto→Prop) {l:List α}
  (hs:∀ dn acc σ,J dn acc σ→jF g σ₀ σ) (hl:l.length≤kt)
  (step:∀ dn x q,l=dn++x::q→∀ acc σ,J dn acc σ→∀ K:Option V→Sto→Prop,(∀ v σ',J (dn++[x]) (acc++[v]) σ'→K (some v) σ')→(∀ σ',J (dn++[x]) acc σ'→K none σ')→turn (h x) σ K)
  (done:∀ acc σ,J l acc σ→∀ r,¬ σ.has r→Q (.ref r) (σ.upd r (.list acc))) {σ:Sto} (i:J [] [] σ):Kv g σ₀ turn (l.map h) [] σ Q:=by
 have z:∀ q dn,l=dn++q→∀ acc σ,J dn acc σ→acc.length≤dn.length→Kv g σ₀ turn (q.map h) acc σ Q:=fun q=>by
  induction q with
  | nil=>exact fun dn e acc σ i z9=>by rw[List.append_nil] at e;subst e;exact ⟨hs _ _ _ i,done acc σ i⟩
  | cons x q ih =>
   refine fun dn e acc σ i w=>⟨hs _ _ _ i,step dn x q e acc σ i _ (fun v σ' i'=>⟨?_,ih (dn++[x]) (by refine er e ?_;refine er (List.append_assoc _ _ _) ?_;rfl) _ σ' i' (by rw[List.length_append,List.length_append];exact Nat.succ_le_succ w)⟩) fun σ' i'=>ih (dn++[x]) (by rw[e,List.append_assoc];rfl) _ σ' i' (by rw[List.length_append];exact Nat.le_succ_of_le w)⟩
   have u:=congrArg List.length e
   rw[List.length_append,List.length_cons] at u;lia
 exact z l [] rfl [] σ i (Nat.le_refl _)
theorem k3s {α β:Type} {h:α→V} {g:Option Addr} {σ₀:Sto} {turn:V→Loc→Sto→QS→Prop} {Q:QS} (L:β→Loc) (J:List α→List α→β→Sto→Prop) {l:List α}
  (hs:∀ dn q s σ,J dn q s σ→jF g σ₀ σ)
  (step:∀ dn x q,l=dn++x::q→∀ s σ,J dn (x::q) s σ→∀ K:QS,(∀ s' ρ' σ',ρ'=L s'→J (dn++[x]) q s' σ'→K none ρ' σ')→(∀ v ρ' σ',Q (some v) ρ' σ'→K (some v) ρ' σ')→turn (h x) (L s) σ K)
  (done:∀ s σ,J l [] s σ→Q none (L s) σ) (s:β) {σ:Sto} (i:J [] l s σ):KU g σ₀ turn (l.map h) (L s) σ Q:=by
 have z:∀ q dn,l=dn++q→∀ s σ,J dn q s σ→KU g σ₀ turn (q.map h) (L s) σ Q:=fun q=>by
  induction q with
  | nil=>exact fun dn e s σ i=>by rw[List.append_nil] at e;subst e;exact ⟨hs _ _ _ _ i,done s σ i⟩
  | cons x q ih=>exact fun dn e s σ i=>⟨hs _ _ _ _ i,step dn x q e s σ i _ (fun s' ρ' σ' r i'=>by refine er r ?_;exact ih _ (by refine er e ?_;refine er (List.append_assoc _ _ _) ?_;rfl) s' σ' i') fun z9 z9 z9 q=>q⟩
 exact z l [] rfl s σ i
theorem k9m {β:Type} {g:Option Addr} {σ₀:Sto} {turn:V→Loc→Sto→QS→Prop} {Q:QS} (L:β→Loc) (J:β→Sto→Prop) {l:List V}
  (hs:∀ o σ,J o σ→jF g σ₀ σ)
  (step:∀ x,x∈l→∀ o σ,J o σ→∀ K:QS,(∀ o' ρ' σ',ρ'=L o'→J o' σ'→K none ρ' σ')→(∀ v ρ' σ',Q (some v) ρ' σ'→K (some v) ρ' σ')→turn x (L o) σ K)
  (done:∀ o σ,J o σ→Q none (L o) σ) (o:β) {σ:Sto} (i:J o σ):KU g σ₀ turn l (L o) σ Q:=by
 have z:=JM (h:=id) L J hs step done o i
 rw[List.map_id] at z;exact z
section
variable {K:Calls}
theorem Yh {k:Nat} (h:k≤1000000):k<kt:=Nat.lt_of_le_of_lt h (by decide)
theorem ky {k:Nat} (h:k≤1000000):k≤kt:=Nat.le_of_lt (Yh h)
noncomputable def uS (K:Calls) (n:Nat) (f:Addr) (xs:List V) (v:V):Prop:=∀ {σ:Sto} {Q:QV} {X:QX},(∀ σ',New σ σ'→Q v σ')→K.C n f xs σ Q X
noncomputable abbrev txt (b:By):Tx:=b.map (·.toNat)
noncomputable abbrev byt (s:Tx):By:=s.map Nat.toUInt8
theorem Yx {α β:Type} (f:α→β):∀ l:List α,kR [] (l.map fun x=>[f x])=l.map f
 | []=>rfl
 | [x]=>rfl
 | x::y::r=>by
  show [f x]++[]++kR [] ((y::r).map fun x=>[f x])=_
  refine er (Yx f (y::r)) ?_;rfl
theorem k4H {n:Nat} {b:By} (l:b.length≤1000000):uS K (n+1) qh [.bytes b] (.str (txt b)):=fun {σ Q X} k=>by
 refine kj Uq [some (.bytes b)] rfl rfl ?_
 refine wX b (fun c=>.str [c.toNat]) (fun z9 e=>nomatch e) (ky l) (fun x z9 σ z9 KK k=>?_) fun σ' r n h=>?_
 ·refine And.intro (Int.natCast_nonneg _) (And.intro (Int.ofNat_lt.2 x.toNat_lt) ?_)
  exact k _ .refl
 ·have e:kR [] (b.map fun c=>[c.toNat])=txt b:=Yx _ b
  refine Qz (ts:=b.map fun c=>[c.toNat]) (by refine er List.map_map ?_;exact kb) ?_ ?_
  ·refine er e ?_;refine er (List.length_map _) ?_;exact ky l
  ·refine er e ?_;exact k _ (n.new h)
theorem qL {n:Nat} {s:Tx} (l:s.length≤1000000) (hs:∀ c∈s,c<256):uS K (n+1) js [.str s] (.bytes (byt s)):=fun {σ Q X} k=>by
 refine kj YQ [some (.str s),none,none] rfl rfl ?_
 refine wX s (fun c:Nat=>.int (c:Nat)) (fun z9 e=>nomatch e) (ky l) (fun x z9 σ z9 KK k=>k _ .refl) fun σ1 r n h=>?_
 have n2:=n.new (c:=.list (s.map fun c:Nat=>.int (c:Nat))) h
 have g2:(σ1.upd r (.list (s.map fun c:Nat=>.int (c:Nat)))).get r=some (.list (s.map fun c:Nat=>.int (c:Nat))):=kb
 generalize σ1.upd r (.list (s.map fun c:Nat=>.int (c:Nat)))=σ2 at n2 g2 ⊢
 refine Kj g2 (by refine er (List.length_map _) ?_;exact ky l) ?_
 refine JM (g:=some r) (fun (o:Option V)=>[some (.str s),some (.ref r),o]) (fun z9=>New σ2) (fun z9 σ' i=>i.unt id (Sto.has_of g2)) (fun c m o σ' i K k z9=>?_) (fun o σ' i=>?_) _ .refl
 ·refine JH (b:=decide ((255:Int)<(c:Nat))) (decide_eq_false (by have:=hs c m;lia)) ?_
  exact k _ _ _ rfl i
 ·refine qr (is:=s.map fun c:Nat=>(c:Int)) (by refine er List.map_map ?_;exact i.g g2) (by refine er (List.length_map _) ?_;exact ky l) (fun i m=>?_) ?_
  ·refine x11 (List.mem_map.1 m) fun c m' zr2=>?_;subst zr2
   have:=hs c m';lia
  ·refine er List.map_map ?_;exact k _ (n2.tr i)
noncomputable abbrev k1T:Tx:=[48,49,50,51,52,53,54,55,56,57,97,98,99,100,101,102]
noncomputable def wf (b:By):Tx:=b.flatMap fun x=>[k1T.getD (x.toNat/16) 0,k1T.getD (x.toNat%16) 0]
theorem qM:∀ b:By,(wf b).length=2*b.length
 | []=>rfl
 | x::r=>by show (wf r).length+2=_;refine er (qM r) ?_;rfl
theorem K1m:∀ x:Fin 256,((x.val:Int).fdiv (2^(4:Int).toNat)=((x.val/16:Nat):Int))∧Builtin.bitAnd (x.val:Int) 15=((x.val%16:Nat):Int):=by decide +kernel
theorem ul {σ:Sto} {Q:QV} {s:Tx} {i:Int} {p:Nat} (e:i=(p:Nat)) (l:p<s.length) (h:s.length≤1000000) (q:Q (.str [s.getD p 0]) σ):YH (.str s) (.int i) σ Q:=by
 subst e
 exact kK (jk (YP (Nat.le_trans (Nat.le_of_lt l) h))) (kN (uK l) q)
noncomputable def hexI (r:Addr) (σ:Sto) (p:By) (σ':Sto):Prop:=∀ G:Prop,(New σ σ'→σ'.get r=some (.list ((wf p).map fun c=>.str [c]))→G)→G
theorem k1e {n:Nat} {b:By} (l:b.length≤1000):uS K (n+1) yL [.bytes b] (.str (wf b)):=fun {σ Q X} k=>by
 refine kj k15 [some (.bytes b),none,none] rfl rfl ?_
 refine fun r hr=>?_
 refine wq (g:=none) (fun (_:By) (o:Option V)=>[some (.bytes b),some (.ref r),o]) (hexI r σ) (fun z9 z9 z9=>trivial) (fun p y q e o σ' i K k z9=>i _ fun nw g=>?_) (fun o σ' i=>i _ fun nw g=>?_) _ fun G w=>w (Fr.refl.new hr) kb
 ·have hy:=K1m ⟨y.toNat,y.toNat_lt⟩
  have l1:y.toNat/16<16:=by have:=y.toNat_lt;lia
  have lp:=qM p
  have lb:b.length=p.length+(q.length+1):=by refine er e ?_;simp
  refine kK (Ja g).1 ?_
  refine And.intro (by decide) ?_
  refine ul hy.1 l1 (by decide) ?_
  refine jn g (Yh (by rw[List.length_map,lp];lia)) ?_
  refine kK (Ja kb).1 ?_
  refine ul hy.2 (Nat.mod_lt _ (by decide)) (by decide) ?_
  refine jn kb (Yh (by refine er List.length_append ?_;rw[List.length_map,lp];show _+1≤_;lia)) ?_
  refine k _ _ _ rfl fun G w=>w ((nw.set (.inr hr)).set (.inr hr)) ?_
  refine er kb ?_;simp[wf]
 ·have lp:=qM b
  have e:kR [] ((wf b).map fun c=>[c])=wf b:=(Yx _ _).trans (List.map_id' _)
  refine Qz (ts:=(wf b).map fun c=>[c]) (by refine er List.map_map ?_;exact g) (ky (by refine er e (er lp ?_);show _+0≤_;lia)) ?_
  refine er e ?_;exact k _ nw
theorem yY {n c p:Nat} (h:KC [c] k1T=some p):uS K (n+1) qJ [.str [c]] (.int p):=fun {σ Q X} k=>by
 have e:k12 (KC [c] k1T)=p:=by refine er h ?_;rfl
 refine kj YN [some (.str [c]),none] rfl rfl ?_
 refine k9H rfl ?_
 refine JH (b:=decide (k12 (KC [c] k1T)<0)) (by refine er e ?_;exact decide_eq_false (by lia)) ?_
 refine k07 (b:=decide (0≤k12 (KC [c] k1T))) (by refine er e ?_;exact decide_eq_true (by lia)) ?_
 exact e▸k _ .refl
theorem Ys {n:Nat}:uS K (n+1) JZ [.int 4] (.bytes [0,0,0,0]):=fun {σ Q X} k=>by
 refine kj uL [some (.int 4)] rfl rfl ?_
 refine And.intro (by decide) ?_
 refine And.intro (by decide) ?_
 exact k _ .refl
end
section
variable {K:Calls}
noncomputable def k3a:Nat→By→List V
 | _,[]=>[]
 | k,_::t=>.int ((2*k:Nat))::k3a (k+1) t
theorem uU:∀ (b:By) (k:Nat),(List.range' k b.length).map (fun i=>V.int (0+(i:Nat)*2))=k3a k b
 | [],_=>rfl
 | _::t,k=>by
  show _::(List.range' (k+1) t.length).map _=V.int ((2*k:Nat))::k3a (k+1) t
  refine er (uU t (k+1)) ?_
  refine congrArg (·::_) (congrArg V.int ?_);lia
theorem k3S {b:By} (l:b.length≤1000):ZQ [.int 0,.int ((wf b).length:Nat),.int 2]=some (k3a 0 b):=by
 have e:Kf 0 ((wf b).length:Nat) 2=k3a 0 b:=by
  refine er (qM _) ?_
  unfold Kf
  have c:∀ k:Nat,(if (0:Int)<((2*k:Nat):Int) then ((((2*k:Nat):Int)-0-1)/2+1).toNat else 0)=k:=fun k=>by
   cases k with
   | zero=>rfl
   | succ n =>
    refine er (if_pos (Int.natCast_pos.2 (Nat.succ_pos _))) ?_
    show ((((2*n+1:Nat):Int)+1-0-1)/2+1).toNat=n+1
    rw[Int.sub_zero,Int.add_sub_cancel]
    exact congrArg (·+1) (Nat.mul_add_div (m:=2) (by decide) n 1)
  refine er (c _) ?_;refine er List.range_eq_range' ?_;refine er (uU _ _) ?_;rfl
 exact er (rng3 (by refine er (qM _) ?_;lia)) (er e rfl)
theorem UG:∀ p:Fin 16,KC [k1T.getD p.val 0] k1T=some p.val:=by decide
theorem k8y {p q:By} {x:UInt8}:(wf (p++x::q)).getD (2*p.length) 0=k1T.getD (x.toNat/16) 0∧(wf (p++x::q)).getD (2*p.length+1) 0=k1T.getD (x.toNat%16) 0:=by
 have e:wf (p++x::q)=wf p++(k1T.getD (x.toNat/16) 0::k1T.getD (x.toNat%16) 0::wf q):=by
  unfold wf;refine er List.flatMap_append ?_;rfl
 have l:=qM p
 have g:∀ j,(wf (p++x::q)).getD (2*p.length+j) 0=(k1T.getD (x.toNat/16) 0::k1T.getD (x.toNat%16) 0::wf q).getD j 0:=fun j=>by
  refine er e ?_;refine er (List.getD_eq_getElem?_getD) ?_;refine er (List.getElem?_append_right (by lia)) ?_;refine er l ?_;refine er (Nat.add_sub_cancel_left _ _) ?_;rw[← List.getD_eq_getElem?_getD]
 exact ⟨g 0,g 1⟩
theorem Wh {a b:Int} (ha:a.natAbs<2^64) (hb:b.natAbs<2^64):IntMulOk a b :=
 IntMulOk.of_le (m:=64) (n:=64) (intBits_le_iff.mpr ha) (intBits_le_iff.mpr hb) (by decide)
theorem k8J (x:UInt8):((16:Int)*((x.toNat/16:Nat):Int)+((x.toNat%16:Nat):Int))=(x.toNat:Nat):=by lia
theorem Qt {n:Nat} {b:By} (l:b.length≤1000):uS K (n+2) jC [.str (wf b)] (.bytes b):=fun {σ Q X} k=>by
 have ll:=qM b
 refine kj Qp [some (.str (wf b)),none,none,none,none] rfl rfl ?_
 refine And.intro (ky (by refine er ll ?_;lia)) ?_
 refine And.intro (by decide) ?_
 refine And.intro rfl ?_
 refine JH (by refine er ll (er (Int.fmod_eq_emod_of_nonneg _ (by decide)) (er (show ((2*b.length:Nat):Int)%2=0 by lia) ?_));rfl) ?_
 refine fun r hr=>?_
 refine And.intro (ky (by refine er ll ?_;lia)) ?_
 refine kN (k3S l) ?_
 refine k1p (g:=none) (fun it ρ σ'=>New σ σ'∧∃ p q,b=p++q∧it=k3a p.length q∧σ'.get r=some (.list ((p.map fun x:UInt8=>(x.toNat:Int)).map .int))∧∃ o1 o2 o3,ρ=[some (.str (wf b)),some (.ref r),o1,o2,o3]) (fun it ρ σ' i=>trivial) (fun x it ρ σ' i KK k z9=>?_) (fun ρ σ' i=>?_) ⟨Fr.refl.new hr,[],b,rfl,rfl,kb,_,_,_,rfl⟩
 ·refine bc fun zg=>?_
  obtain ⟨nw,p,q,e,e2,g,o1,o2,o3,rfl⟩:=i
  refine zg ?_;clear zg
  cases q with
  | nil=>injection e2
  | cons y q =>
   cases e2
   have lb:b.length=p.length+(q.length+1):=by refine er e ?_;simp
   have ha:=k8y (p:=p) (q:=q) (x:=y)
   rw[← e] at ha
   have yl:=y.toNat_lt
   refine ul rfl (by lia) (by lia) ?_
   refine yY (p:=y.toNat/16) (by refine er ha.1 ?_;exact UG ⟨_,by lia⟩) fun σ1 n1=>?_
   refine ul (p:=2*p.length+1) rfl (by lia) (by lia) ?_
   refine yY (p:=y.toNat%16) (by refine er ha.2 ?_;exact UG ⟨_,by lia⟩) fun σ2 n2=>?_
   refine kK (Ja (n2.g (n1.g g))).1 ?_
   refine And.intro (Wh (by decide) (by lia)) ?_
   refine jn (n2.g (n1.g g)) (Yh (by refine er (List.length_map _) ?_;refine er (List.length_map _) ?_;lia)) ?_
   refine k _ _ ⟨(((nw.tr n1).tr n2).set (.inr hr)),p++[y],q,by refine er e ?_;simp,?_,?_,_,_,_,rfl⟩
   ·refine er List.length_append ?_;rfl
   ·refine er kb ?_;refine er (k8J _) ?_;simp
 ·refine bc fun zg=>?_
  obtain ⟨nw,p,q,e,e2,g,o1,o2,o3,rfl⟩:=i
  refine zg ?_;clear zg
  cases q with
  | cons y q=>injection e2
  | nil =>
   rw[List.append_nil] at e;subst e
   refine qr g (ky (by refine er (List.length_map _) ?_;lia)) (fun i m=>?_) ?_
   ·refine bc fun zg=>?_
    obtain ⟨c,_,rfl⟩:=List.mem_map.1 m
    refine zg ?_;clear zg
    have:=c.toNat_lt;lia
   ·refine er List.map_map (er (show (List.map ((fun i:Int=>i.toNat.toUInt8)∘fun x:UInt8=>(x.toNat:Int)) b)=b from (List.map_congr_left fun x z9=>by simp).trans (List.map_id' b)) ?_)
    exact k _ nw
end
section
variable {K:Calls}
section
variable {σ:Sto} {Q:QV}
theorem ZS {s:By} {i:Int} {p:Nat} (e:i=(p:Nat)) (l:p<s.length) (h:s.length≤1000000) (q:Q (.int ((s.getD p 0).toNat:Nat)) σ):YH (.bytes s) (.int i) σ Q:=by
 subst e
 exact kK (jk (YP (Nat.le_trans (Nat.le_of_lt l) h))) (kN (uK l) q)
theorem ZH {s p:By} {c:UInt8} {k:Nat} (h:KC (c::p) s=some k) (l:s.length≤1000000) (q:Q (.int (k:Nat)) σ):jI .bfind (.bytes s) [.bytes (c::p)] σ Q:=by
 show s.length≤kt∧Q (.int (k12 (KC (c::p) s))) σ
 refine er h ?_;exact ⟨ky l,q⟩
theorem k5S {s p:By} {c:UInt8} (h:KC (c::p) s=none) (l:s.length≤1000000) (q:Q (.int (-1)) σ):jI .bfind (.bytes s) [.bytes (c::p)] σ Q:=by
 show s.length≤kt∧Q (.int (k12 (KC (c::p) s))) σ
 refine er h ?_;exact ⟨ky l,q⟩
theorem kZ {b c:By} {lo hi:Option Int} (l:b.length≤1000000) (h:JX b lo hi=c) (q:Q (.bytes c) σ):wd (.bytes b) lo hi σ Q:=⟨ky l,h▸q⟩
theorem UM {b c:Tx} {lo hi:Option Int} (l:b.length≤1000000) (h:JX b lo hi=c) (q:Q (.str c) σ):wd (.str b) lo hi σ Q:=⟨ky l,h▸q⟩
theorem k5i {b:By} {x:UInt8} {R:Bool→Prop} (h:x∈b) (q:R true):kT (inV (.int (x.toNat:Nat)) (.bytes b) σ) R:=by
 have e:inV (.int (x.toNat:Nat)) (.bytes b) σ=some true:=by
  show (if (0:Int)≤(x.toNat:Nat)∧((x.toNat:Nat):Int)<256 then some (b.any fun c=>((c.toNat:Nat):Int)==(x.toNat:Nat)) else none)=_
  refine er (if_pos ⟨Int.natCast_nonneg _,by have:=x.toNat_lt;lia⟩) ?_
  exact congrArg some (List.any_eq_true.2 ⟨x,h,beq_self_eq_true _⟩)
 exact kN e q
end
noncomputable def k3o (b:By):Nat:=b.foldl (fun a x=>10*a+(x.toNat-48)) 0
theorem Ut (p:By) (x:UInt8):k3o (p++[x])=10*k3o p+(x.toNat-48):=by unfold k3o;refine er List.foldl_append ?_;rfl
noncomputable def numI (σ:Sto) (p:By) (σ':Sto):Prop:=∀ G:Prop,(New σ σ'→k3o p<10^p.length→G)→G
theorem k9a {a b c:Nat} (h:a<b) (k:c<10):10*a+c<10*b:=Nat.lt_of_lt_of_le (Nat.add_lt_add_left k _) (Nat.mul_le_mul_left 10 h)
theorem zo {n:Nat} {b:By} (l:b.length≤9) (l0:b≠[]) (h:∀ x∈b,48≤x.toNat∧x.toNat<58):uS K (n+1) we [.bytes b,.int 10] (.int (k3o b:Nat)):=fun {σ Q X} k=>by
 refine kj Yf [some (.bytes b),some (.int 10),none,none,none] rfl rfl ?_
 refine And.intro (ky (by lia)) ?_
 refine JH (b:=((b.length:Nat):Int)==0) (by cases b with | nil=>exact absurd rfl l0 | cons _ _=>rfl) ?_
 refine wq (g:=none) (fun (p:By) (o:Option V×Option V)=>[some (.bytes b),some (.int 10),some (.int (k3o p:Nat)),o.1,o.2]) (numI σ) (fun z9 z9 z9=>trivial) (fun p y q e o σ' i K k z9=>i _ fun nw lt=>?_) (fun o σ' i=>i _ fun nw lt=>k _ nw) (_,_) fun G w=>w .refl (by decide)
 have hy:=h y (by refine er e ?_;simp)
 have lb:b.length=p.length+(q.length+1):=by refine er e ?_;simp
 have l2:10^p.length≤10^9:=Nat.pow_le_pow_right (by decide) (by lia)
 refine k07 (b:=decide ((0:Int)≤(y.toNat:Nat)-48)) (decide_eq_true (by lia)) ?_
 refine JH (b := !decide ((y.toNat:Nat)-48<(10:Int))) (by refine er (decide_eq_true (by lia)) ?_;rfl) ?_
 refine And.intro (Wh (by decide) (show k3o p<2^64 from Nat.lt_trans (Nat.lt_of_lt_of_le lt l2) (by decide))) ?_
 refine k (some (.int (y.toNat:Nat)),some (.int ((y.toNat:Nat)-48))) _ _ ?_ fun G w=>w nw ?_
 ·refine er (Ut _ _) ?_;rw[show (((10*k3o p+(y.toNat-48):Nat)):Int)=10*(k3o p:Nat)+((y.toNat:Nat)-48) from congrArg (((10*k3o p:Nat):Int)+·) (Int.ofNat_sub hy.1)];rfl
 ·rw[Ut,List.length_append];show _<10^(p.length+1);rw[Nat.pow_succ];exact Nat.lt_of_lt_of_eq (k9a lt (Nat.sub_lt_left_of_lt_add hy.1 hy.2)) (Nat.mul_comm _ _)
theorem k1d {n:Nat} {c:UInt8} {b:By} (l:b.length≤8) (h:∀ x∈c::b,48≤x.toNat∧x.toNat<58) (h0:c.toNat≠48):uS K (n+2) qP [.bytes (c::b)] (.int (k3o (c::b):Nat)):=fun {σ Q X} k=>by
 refine kj zt [some (.bytes (c::b))] rfl rfl ?_
 refine And.intro (ky (Nat.le_trans (Nat.succ_le_succ l) (by decide))) ?_
 refine Ku (b:=decide ((1:Int)<((c::b).length:Nat))) (fun z9=>?_) (fun z9=>?_)
 ·refine ZS (p:=0) rfl (Nat.succ_pos _) (Nat.le_trans (Nat.succ_le_succ l) (by decide)) ?_
  refine JH (b:=((c.toNat:Nat):Int)==48) (beq_false_of_ne (by lia)) ?_
  exact zo (b:=c::b) (Nat.succ_le_succ l) (by simp) h k
 ·exact zo (b:=c::b) (Nat.succ_le_succ l) (by simp) h k
theorem k2I {n:Nat} {b s:By} (l:b.length≤1000000) (h:∀ x∈s,KC [x] b=none):uS K (n+1) jK [.bytes b,.bytes s] (.bool false):=fun {σ Q X} k=>by
 refine kj qg [some (.bytes b),some (.bytes s),none] rfl rfl ?_
 refine JM (g:=none) (fun (o:Option V)=>[some (.bytes b),some (.bytes s),o]) (fun z9=>New σ) (fun z9 z9 z9=>trivial) (fun x m o σ' nw K k z9=>?_) (fun o σ' i=>k _ i) _ .refl
 have hx:=h x m
 refine fun r hr=>?_
 have l2:=x.toNat_lt
 refine qr (is:=[((x.toNat:Nat):Int)]) kb (ky (show 1≤_ by decide)) (fun i m=>by cases m with | head=>lia | tail _ m=>cases m) ?_
 have ex:((x.toNat:Nat):Int).toNat.toUInt8=x:=by simp
 refine er List.map_cons (er ex ?_)
 refine k5S hx l ?_
 exact k _ _ _ rfl (nw.new hr)
theorem k36 {n:Nat} {b s:By} (h:∀ x∈b,x∈s):uS K (n+1) Jc [.bytes b,.bytes s] (.bool true):=fun {σ Q X} k=>by
 refine kj Qa [some (.bytes b),some (.bytes s),none] rfl rfl ?_
 refine JM (g:=none) (fun (o:Option V)=>[some (.bytes b),some (.bytes s),o]) (fun z9=>New σ) (fun z9 z9 z9=>trivial) (fun x m o σ' nw K k z9=>?_) (fun o σ' i=>k _ i) _ .refl
 exact k5i (h x m) (k _ _ _ rfl nw)
end
section
variable {K:Calls}
noncomputable def Mut (C:Addr) (σ:Sto) (a d:Addr) (kvs:List (V×V)):Prop:=σ.get a=some (.inst C d)∧σ.get d=some (.dict kvs)∧a≠d
noncomputable def Obj (C:Addr) (σ:Sto) (a:Addr) (kvs:List (V×V)):Prop:=∃ d,Mut C σ a d kvs
section
variable {C a d:Addr} {nm:Tx} {kvs:List (V×V)} {x v:V} {σ σ':Sto} {Q:QV} {R:Sto→Prop} {W:Addr→Prop}
theorem Mut.attr (o:Mut C σ a d kvs) (h:kE kvs (.str nm)=some v) (q:Q v σ):wA C nm (.ref a) σ Q:=k0j o.1 o.2.1 h q
theorem Mut.set (o:Mut C σ a d kvs) (l:Nat.ble kvs.length 1000=true) (q:Mut C (σ.upd d (.dict (Kr kvs (.str nm) v))) a d (Kr kvs (.str nm) v)→R (σ.upd d (.dict (Kr kvs (.str nm) v)))):uH C nm (.ref a) v σ R :=
 k8z o.1 o.2.1 (Nat.le_of_ble_eq_true l) (q ⟨KO o.2.2.symm o.1,kb,o.2.2⟩)
theorem Mut.fr (o:Mut C σ a d kvs) (f:Fr W σ σ') (h1:¬ W a) (h2:¬ W d):Mut C σ' a d kvs:=⟨f.get h1 o.1,f.get h2 o.2.1,o.2.2⟩
theorem Mut.meth {P:Prop} (o:Mut C σ a d kvs) (h:kE kvs (.str nm)=none) (q:P):(∃ a' d kvs,V.ref a=.ref a'∧σ.get a'=some (.inst C d)∧σ.get d=some (.dict kvs)∧kE kvs (.str nm)=none)∧P:=⟨⟨a,d,kvs,rfl,o.1,o.2.1,h⟩,q⟩
theorem Obj.attr (o:Obj C σ a kvs) (h:kE kvs (.str nm)=some v) (q:Q v σ):wA C nm (.ref a) σ Q:=let ⟨_,o⟩:=o;o.attr h q
theorem Obj.meth {P:Prop} (o:Obj C σ a kvs) (h:kE kvs (.str nm)=none) (q:P):(∃ a' d kvs,V.ref a=.ref a'∧σ.get a'=some (.inst C d)∧σ.get d=some (.dict kvs)∧kE kvs (.str nm)=none)∧P:=let ⟨_,o⟩:=o;o.meth h q
theorem Obj.n (o:Obj C σ a kvs) (f:New σ σ'):Obj C σ' a kvs:=let ⟨d,o⟩:=o;⟨d,o.fr f id id⟩
theorem Mut.start (ha:¬ σ.has a) (hd:¬ σ.has d) (ne:a≠d):Mut C ((σ.upd d (.dict [])).upd a (.inst C d)) a d []∧New σ ((σ.upd d (.dict [])).upd a (.inst C d)) :=
 ⟨⟨kb,KO ne kb,ne⟩,(Fr.refl.set (.inr hd)).set (.inr ha)⟩
end
noncomputable abbrev k99:V:=.str [110,97,109,101]
noncomputable abbrev k7x:V:=.str [101,109,97,105,108]
noncomputable abbrev K0d:V:=.str [119,104,101,110]
noncomputable abbrev K0a:V:=.str [122,111,110,101]
noncomputable abbrev kold:V:=.str [111,108,100]
noncomputable abbrev knew:V:=.str [110,101,119]
noncomputable abbrev k9b:V:=.str [112,101,114,115,111,110]
noncomputable abbrev k6n:V:=.str [109,101,115,115,97,103,101]
noncomputable abbrev k7m:V:=.str [100,105,115,107]
noncomputable abbrev k0U:V:=.str [102,111,108,100,101,114]
noncomputable abbrev k83:V:=.str [115,105,122,101]
noncomputable abbrev K10:V:=.str [112,97,116,104]
noncomputable abbrev k2E:V:=.str [108,111,99,107,95,112,97,116,104]
noncomputable abbrev k6t:V:=.str [105,115,95,104,101,108,100]
noncomputable abbrev K1M:V:=.str [108,101,102,116]
noncomputable abbrev k93:V:=.str [102,105,108,101,115]
noncomputable abbrev k9W:V:=.str [98,101,108,111,119]
section
variable {n:Nat} {σ:Sto} {Q:QV} {X:QX} {v1 v2 v3 v4:V}
noncomputable abbrev k1E (σ:Sto) (a:Addr) (v1 v2 v3 v4:V):Prop:=Obj kO σ a [(k99,v1),(k7x,v2),(K0d,v3),(K0a,v4)]
noncomputable abbrev Za (σ:Sto) (a:Addr) (v1 v2 v3 v4:V):Prop:=Obj ki σ a [(kold,v1),(knew,v2),(k9b,v3),(k6n,v4)]
noncomputable abbrev k1h (σ:Sto) (a:Addr) (v1 v2 v3:V):Prop:=Obj kh σ a [(k7m,v1),(k0U,v2),(k83,v3)]
theorem k23 (k:∀ a σ',New σ σ'→¬ σ.has a→k1E σ' a v1 v2 v3 v4→Q (.ref a) σ'):∀ a d,¬ σ.has a→¬ σ.has d→a≠d →
  K.C (n+1) ja [.ref a,v1,v2,v3,v4] ((σ.upd d (.dict [])).upd a (.inst kO d)) (fun r σ=>r=.none∧Q (.ref a) σ) X:=fun a d ha hd ne=>by
 obtain ⟨o,nw⟩:=Mut.start (C:=kO) ha hd ne
 refine kj jO [some (.ref a),some v1,some v2,some v3,some v4] rfl rfl ?_
 refine o.set rfl fun o=>?_
 refine o.set rfl fun o=>?_
 refine o.set rfl fun o=>?_
 refine o.set rfl fun o=>?_
 exact ⟨rfl,k a _ ((((nw.set (.inr hd)).set (.inr hd)).set (.inr hd)).set (.inr hd)) ha ⟨d,o⟩⟩
theorem wR (k:∀ a σ',New σ σ'→¬ σ.has a→Za σ' a v1 v2 v3 v4→Q (.ref a) σ'):∀ a d,¬ σ.has a→¬ σ.has d→a≠d →
  K.C (n+1) jt [.ref a,v1,v2,v3,v4] ((σ.upd d (.dict [])).upd a (.inst ki d)) (fun r σ=>r=.none∧Q (.ref a) σ) X:=fun a d ha hd ne=>by
 obtain ⟨o,nw⟩:=Mut.start (C:=ki) ha hd ne
 refine kj Jw [some (.ref a),some v1,some v2,some v3,some v4] rfl rfl ?_
 refine o.set rfl fun o=>?_
 refine o.set rfl fun o=>?_
 refine o.set rfl fun o=>?_
 refine o.set rfl fun o=>?_
 exact ⟨rfl,k a _ ((((nw.set (.inr hd)).set (.inr hd)).set (.inr hd)).set (.inr hd)) ha ⟨d,o⟩⟩
theorem Zp (k:∀ a σ',New σ σ'→¬ σ.has a→k1h σ' a v1 v2 v3→Q (.ref a) σ'):∀ a d,¬ σ.has a→¬ σ.has d→a≠d →
  K.C (n+1) Ky [.ref a,v1,v2,v3] ((σ.upd d (.dict [])).upd a (.inst kh d)) (fun r σ=>r=.none∧Q (.ref a) σ) X:=fun a d ha hd ne=>by
 obtain ⟨o,nw⟩:=Mut.start (C:=kh) ha hd ne
 refine kj KZ [some (.ref a),some v1,some v2,some v3] rfl rfl ?_
 refine o.set rfl fun o=>?_
 refine o.set rfl fun o=>?_
 refine o.set rfl fun o=>?_
 exact ⟨rfl,k a _ (((nw.set (.inr hd)).set (.inr hd)).set (.inr hd)) ha ⟨d,o⟩⟩
end
theorem Wg {α:Type} (p:List α) {q:List α}:JX (p++q) (some (p.length:Nat)) none=q:=(K1n (by refine er List.length_append ?_;exact Nat.le_add_right _ _)).trans List.drop_left
theorem wP {α:Type} (p:List α) {q:List α}:JX (p++q) none (some (p.length:Nat))=p:=k0z.trans List.take_left
noncomputable def jj (o:Fin 6):By:=if o.val=0 then [0,0,0,0] else [0,7,1,o.val.toUInt8]
noncomputable def k1L (w:Fin 40):By:=[49,48,(48+w.val/10).toUInt8,(48+w.val%10).toUInt8]
noncomputable def Ju (z:Fin 3):By:=[[43,48,48,48,48],[45,48,49,51,48],[43,49,52,48,48]].getD z.val []
noncomputable abbrev k5b:By:=[65,32,66]
noncomputable abbrev k4K:By:=[97,64,98]
noncomputable def jP (w:Fin 40) (z:Fin 3):By:=[65,32,66,32,60,97,64,98,62,32]++(k1L w++32::Ju z)
noncomputable abbrev k57 (w:Fin 40):V:=.int (1000+w.val:Nat)
theorem k3R:∀ w:Fin 40,k3o (k1L w)=1000+w.val∧(∀ x∈k1L w,48≤x.toNat∧x.toNat<58):=by decide +kernel
theorem WA:∀ (w:Fin 40) (z:Fin 3),KC [32] (k1L w++32::Ju z)=some 4∧KC [9] (jP w z)=none∧(Ju z).length=5∧(Ju z).headD 0∈([43,45]:By)∧(∀ x∈(Ju z).drop 1,x∈([48,49,50,51,52,53,54,55,56,57]:By)):=by decide +kernel
theorem k3Y:∀ z:Fin 3,JX (Ju z) (some 1) none=(Ju z).drop 1:=by decide
theorem k6X:∀ x∈([60,62,10,0]:By),KC [x] (k5b++k4K)=none:=by decide
noncomputable abbrev uR (σ:Sto) (a:Addr) (w:Fin 40) (z:Fin 3):Prop:=k1E σ a (.bytes k5b) (.bytes k4K) (k57 w) (.bytes (Ju z))
theorem k2x {n:Nat} {w:Fin 40}:uS K (n+2) qP [.bytes (k1L w)] (k57 w):=fun {σ Q X} k=>by
 obtain ⟨d1,d2⟩:=k3R w
 exact k1d (c:=49) (b:=[48,(48+w.val/10).toUInt8,(48+w.val%10).toUInt8]) (Nat.le_of_ble_eq_true rfl) d2 (by decide) fun σ' n=>d1▸k σ' n
set_option maxHeartbeats 2000000 in
theorem uh {n:Nat} {w:Fin 40} {z:Fin 3} {σ:Sto} {Q:QV} {X:QX} (k:∀ a σ',New σ σ'→¬ σ.has a→uR σ' a w z→Q (.ref a) σ'):K.C (n+3) qw [.bytes (jP w z)] σ Q X:=by
 refine x04 (WA w z) fun f1 z9 f3 f4 f5=>?_
 have lr:(k1L w++32::Ju z).length=10:=by refine er List.length_append ?_;rw[List.length_cons,f3];rfl
 have ez:k1L w++32::Ju z=(k1L w++[32])++Ju z:=by simp
 have lp:(jP w z).length=20:=by unfold jP;refine er List.length_append (er lr ?_);rfl
 refine kj wy [some (.bytes (jP w z)),none,none,none,none,none,none,none,none] rfl rfl ?_
 refine ZH (k:=3) rfl (by lia) ?_
 refine kZ (c:=k5b) (by lia) (wP k5b) ?_
 refine kZ (c:=[97,64,98,62,32]++(k1L w++32::Ju z)) (by lia) (Wg [65,32,66,32,60]) ?_
 refine ZH (k:=3) rfl (by refine er List.length_append (er lr ?_);decide) ?_
 refine kZ (c:=k4K) (by refine er List.length_append (er lr ?_);decide) (wP k4K) ?_
 refine kZ (c:=k1L w++32::Ju z) (by refine er List.length_append (er lr ?_);decide) (Wg [97,64,98,62,32]) ?_
 refine And.intro (by decide) ?_
 refine k2I (by decide) k6X fun σ1 n1=>?_
 refine ZH f1 (by lia) ?_
 refine kZ (c:=k1L w) (by lia) (wP (k1L w)) ?_
 refine k2x fun σ2 n2=>?_
 refine kZ (c:=Ju z) (by lia) (by refine er ez ?_;exact Wg (k1L w++[32])) ?_
 refine And.intro (ky (by lia)) ?_
 refine And.intro rfl ?_
 refine JH (b := !(((Ju z).length:Nat)==(5:Int))) (by refine er f3 ?_;rfl) ?_
 refine ZS (p:=0) rfl (by lia) (by lia) ?_
 have e0:(Ju z).getD 0 0=(Ju z).headD 0:=by cases Ju z <;> rfl
 refine k5i (e0▸f4) ?_
 refine kZ (c:=(Ju z).drop 1) (by lia) (k3Y z) ?_
 refine k36 f5 fun σ3 n3=>?_
 refine k23 fun a σ4 n4 ha o=>?_
 have nn:=(n1.tr n2).tr n3
 exact k a σ4 (nn.tr n4) (nn.nhas ha) o
end
section
variable {K:Calls}
structure Rec where
 o:Fin 6
 n:Fin 6
 w:Fin 40
 z:Fin 3
 m:Tx
noncomputable def Ji (m:Tx):Prop:=m.length≤100∧∀ c∈m,c≠10∧c<256
noncomputable def ZV (o n:Fin 6):By:=byt (wf (jj o))++32::(byt (wf (jj n))++[32])
noncomputable def ZE (m:Tx):By:=match m with
 | []=>[]
 | c::r=>9::byt (c::r)
noncomputable def yj (r:Rec):By:=ZV r.o r.n++(jP r.w r.z++ZE r.m)
noncomputable def yJ (r:Rec):By:=yj r++[10]
noncomputable def K0w (o n:Fin 6):Bool:=(ZV o n).length==18&&JX (ZV o n) (some 8) (some 9)==[32]&&JX (ZV o n) (some 17) (some 18)==[32]&&txt (JX (ZV o n) none (some 8))==wf (jj o)&&txt (JX (ZV o n) (some 9) (some 17))==wf (jj n) && !((ZV o n).contains 10)&&(jj o).length==4
theorem k9O:∀ o n:Fin 6,K0w o n=true:=by decide +kernel
theorem JD (o n:Fin 6):(ZV o n).length=18∧JX (ZV o n) (some 8) (some 9)=[32]∧JX (ZV o n) (some 17) (some 18)=[32]∧txt (JX (ZV o n) none (some 8))=wf (jj o)∧txt (JX (ZV o n) (some 9) (some 17))=wf (jj n)∧(10:UInt8)∉ZV o n∧(jj o).length=4:=by
 have h:=k9O o n
 simp only[K0w,Bool.and_eq_true,beq_iff_eq,Bool.not_eq_true',List.contains_eq_mem,decide_eq_false_iff_not] at h
 exact ⟨h.1.1.1.1.1.1,h.1.1.1.1.1.2,h.1.1.1.1.2,h.1.1.1.2,h.1.1.2,h.1.2,h.2⟩
theorem wC:∀ w z,(jP w z).length=20∧(10:UInt8)∉jP w z:=by decide +kernel
theorem k4i {α:Type} {p q:List α} {i j:Nat} (h:j≤p.length) (hi:i≤j):JX (p++q) (some (i:Nat)) (some (j:Nat))=JX p (some (i:Nat)) (some (j:Nat)):=by
 exact er (k7G h hi) (er (k7G (by refine er List.length_append ?_;exact Nat.le_add_right_of_le h) hi) (er (List.take_append_of_le_length h) rfl))
theorem k84 {α:Type} {p q:List α} {j:Nat} (h:j≤p.length):JX (p++q) none (some (j:Nat))=JX p none (some (j:Nat)):=by
 exact er k0z (er k0z (er (List.take_append_of_le_length h) rfl))
theorem k2p {c:UInt8} {q:By}:∀ {p:By},KC [c] p=none→KC [c] (p++c::q)=some p.length
 | [],_=>by show (if [c]=[c] then some 0 else _)=_;refine er (if_pos rfl) ?_;rfl
 | d::p,h=>by
  replace h:(if [d]=[c] then some 0 else (KC [c] p).map (·+1))=none:=h
  show (if [d]=[c] then some 0 else (KC [c] (p++c::q)).map (·+1))=_
  by_cases e:[d]=[c]
  ·rw[if_pos e] at h;injection h
  ·rw[if_neg e] at h ⊢
   refine er (k2p (p:=p) (by cases z:KC [c] p with | none=>rfl | some k=>rw[z] at h;injection h)) ?_;rfl
theorem k56 {w:Fin 40} {z:Fin 3} {m:Tx} {σ:Sto} {Q:QV} (l:m.length≤100) (q:∀ t,Q (.tup [.bytes (jP w z),t,.bytes (byt m)]) σ):jI .bpart (.bytes (jP w z++ZE m)) [.bytes [9]] σ Q:=by
 have f:=(WA w z).2.1
 have lp:=(wC w z).1
 cases m with
 | nil =>
  refine er (show jP w z++ZE []=jP w z from List.append_nil _) ?_
  refine And.intro (ky (by refine er lp ?_;decide)) ?_
  refine er f ?_;exact q _
 | cons c r =>
  have e:=k2p (c:=9) (q:=byt (c::r)) f
  have d:(jP w z++9::byt (c::r)).drop ((jP w z).length+1)=byt (c::r):=by
   refine er List.drop_append ?_;refine er (List.drop_of_length_le (Nat.le_succ _)) ?_;refine er (Nat.add_sub_cancel_left _ _) ?_;rfl
  have t:=q (.bytes [9])
  show _∧(match KC [9] (jP w z++9::byt (c::r)) with | some k=>Q (.tup [.bytes ((jP w z++9::byt (c::r)).take k),.bytes [9],.bytes ((jP w z++9::byt (c::r)).drop (k+1))]) σ | none=>_)
  refine er e ?_
  refine And.intro (ky ?_) ?_
  ·refine er List.length_append ?_;refine er lp ?_;show 20+((byt (c::r)).length+1)≤_;refine er (List.length_map _) ?_;lia
  ·show Q (.tup [.bytes ((jP w z++9::byt (c::r)).take (jP w z).length),.bytes [9],.bytes ((jP w z++9::byt (c::r)).drop ((jP w z).length+1))]) σ
   refine er d (er List.take_left ?_);exact t
theorem k8O {m:Tx} (h:∀ c∈m,c<256):txt (byt m)=m:=by
 show (m.map Nat.toUInt8).map (·.toNat)=m
 refine er List.map_map ?_
 refine (List.map_congr_left fun c hc=>?_).trans (List.map_id' m)
 show c.toUInt8.toNat=c
 have:=h c hc
 simp;omega
noncomputable def Kp (σ:Sto) (a:Addr) (r:Rec):Prop:=∃ p,Za σ a (.bytes (jj r.o)) (.bytes (jj r.n)) (.ref p) (.str r.m)∧uR σ p r.w r.z
theorem Kp.n {σ σ':Sto} {a:Addr} {r:Rec} (e:Kp σ a r) (f:New σ σ'):Kp σ' a r:=let ⟨p,h,k⟩:=e;⟨p,h.n f,k.n f⟩
theorem zx {n:Nat} {b:By} {t:Tx} (l:b.length≤1000000) (e:txt b=t):uS K (n+1) qh [.bytes b] (.str t):=e▸k4H l
theorem UV {n:Nat} {r:Rec} (hm:Ji r.m) {σ:Sto} {Q:QV} {X:QX} (k:∀ a σ',New σ σ'→¬ σ.has a→Kp σ' a r→Q (.ref a) σ'):K.C (n+4) jV [.bytes (yj r),.int 4] σ Q X:=by
 refine x06 (JD r.o r.n) fun h1 h2 h3 h4 h5 z9 h7=>?_
 have lt:(ZE r.m).length≤101:=by
  cases e:r.m with
  | nil=>exact Nat.zero_le _
  | cons c t=>show (byt (c::t)).length+1≤101;refine er (List.length_map _) ?_;rw[← e];exact Nat.succ_le_succ hm.1
 have lr:(yj r).length=38+(ZE r.m).length:=by unfold yj;rw[List.length_append,List.length_append,h1,(wC _ _).1];lia
 have hd:JX (yj r) (some 18) none=jP r.w r.z++ZE r.m:=by
  have e:=Wg (ZV r.o r.n) (q:=jP r.w r.z++ZE r.m)
  rw[h1] at e;exact e
 refine kj qQ [some (.bytes (yj r)),some (.int 4),none,none,none,none,none,none] rfl rfl ?_
 refine And.intro (Wh (by decide) (by decide)) ?_
 refine And.intro (ky (by lia)) ?_
 refine And.intro (Wh (by decide) (by decide)) ?_
 refine JH (b:=decide (((yj r).length:Nat)<(18:Int))) (decide_eq_false (by lia)) ?_
 refine kZ (c:=[32]) (by lia) ((k4i (i:=8) (j:=9) (by lia) (by decide)).trans h2) ?_
 refine And.intro rfl ?_
 refine And.intro (Wh (by decide) (by decide)) ?_
 refine And.intro (Wh (by decide) (by decide)) ?_
 refine kZ (c:=[32]) (by lia) ((k4i (i:=17) (j:=18) (by lia) (by decide)).trans h3) ?_
 refine And.intro rfl ?_
 refine kZ (c:=JX (ZV r.o r.n) none (some 8)) (by lia) (k84 (j:=8) (by lia)) ?_
 refine zx (Nat.le_trans (by unfold JX;refine er List.length_drop (er List.length_take ?_);exact Nat.le_trans (Nat.sub_le _ _) (Nat.le_trans (Nat.min_le_right _ _) (Nat.le_of_eq h1))) (show 18≤_ by decide)) h4 fun σ1 n1=>?_
 refine Qt (b:=jj r.o) (by refine er h7 ?_;decide) fun σ2 n2=>?_
 refine And.intro (Wh (by decide) (by decide)) ?_
 refine kZ (c:=JX (ZV r.o r.n) (some 9) (some 17)) (by lia) (k4i (i:=9) (j:=17) (by lia) (by decide)) ?_
 refine zx (Nat.le_trans (by unfold JX;refine er List.length_drop (er List.length_take ?_);exact Nat.le_trans (Nat.sub_le _ _) (Nat.le_trans (Nat.min_le_right _ _) (Nat.le_of_eq h1))) (show 18≤_ by decide)) h5 fun σ3 n3=>?_
 refine Qt (b:=jj r.n) (by refine er ((JD r.n r.n).2.2.2.2.2.2) ?_;decide) fun σ4 n4=>?_
 refine And.intro (Wh (by decide) (by decide)) ?_
 refine kZ (c:=jP r.w r.z++ZE r.m) (by lia) hd ?_
 refine k56 hm.1 fun t=>?_
 refine uh fun p σ5 n5 hp o5=>?_
 refine zx (by refine er (List.length_map _) ?_;exact Nat.le_trans hm.1 (by decide)) (k8O fun c hc=>(hm.2 c hc).2) fun σ6 n6=>?_
 refine wR fun a σ7 n7 ha o7=>?_
 have nn:=((((n1.tr n2).tr n3).tr n4).tr n5).tr n6
 exact k a σ7 (nn.tr n7) (nn.nhas ha) ⟨p,o7,o5.n (n6.tr n7)⟩
end
section
variable {K:Calls}
theorem k72 (k:Key):k.v.key?=some k:=by cases k <;> rfl
noncomputable abbrev kvs (l:List (Key×V)):List (V×V):=l.map fun x=>(x.1.v,x.2)
theorem wx (k j:Key) (v:V) (r:List (V×V)):kE ((k.v,v)::r) j=if k=j then some v else kE r j:=by
 show (if k.v.key?=some j then some v else kE r j)=_
 refine er (k72 _) ?_
 by_cases e:k=j
 ·rw[if_pos e,if_pos (congrArg some e)]
 ·rw[if_neg e,if_neg fun h=>e (Option.some.inj h)]
theorem K0I (k j:Key) (v y:V) (r:List (V×V)):Kr ((k.v,v)::r) j y=if k=j then (k.v,y)::r else (k.v,v)::Kr r j y:=by
 show (if k.v.key?=some j then (k.v,y)::r else (k.v,v)::Kr r j y)=_
 refine er (k72 _) ?_
 by_cases e:k=j
 ·rw[if_pos e,if_pos (congrArg some e)]
 ·rw[if_neg e,if_neg fun h=>e (Option.some.inj h)]
theorem K0G (k j:Key) (v:V) (r:List (V×V)):jS ((k.v,v)::r) j=if k=j then r else (k.v,v)::jS r j:=by
 show (if k.v.key?=some j then r else (k.v,v)::jS r j)=_
 refine er (k72 _) ?_
 by_cases e:k=j
 ·rw[if_pos e,if_pos (congrArg some e)]
 ·rw[if_neg e,if_neg fun h=>e (Option.some.inj h)]
noncomputable def KV (u:List Key) (d:List (V×V)) (f:Key→Option V):Prop:=∃ l:List (Key×V),d=kvs l∧(l.map (·.1)).Nodup∧(∀ x∈l,x.1∈u)∧∀ k,kE (kvs l) k=f k
theorem k0a {l:List (Key×V)} {k:Key}:kE (kvs l) k=none↔k∉l.map (·.1):=by
 induction l with
 | nil=>exact ⟨fun z9 m=>(nomatch m),fun z9=>rfl⟩
 | cons x r ih =>
  show kE ((x.1.v,x.2)::kvs r) k=none↔_
  rw[wx]
  by_cases e:x.1=k
  ·rw[if_pos e];exact ⟨fun h=>(nomatch h),fun h=>absurd (show k∈(x::r).map (·.1) from e▸List.mem_cons_self) h⟩
  ·rw[if_neg e,ih];exact ⟨fun h m=>(List.mem_cons.1 m).elim (fun q=>e q.symm) h,fun h m=>h (List.mem_cons_of_mem _ m)⟩
section
variable {u:List Key} {d:List (V×V)} {f:Key→Option V} {k:Key} {v:V}
theorem KV.get (h:KV u d f):kE d k=f k:=by refine x13 h ?_;clear h;intro l zr1 z9 z9 g;subst zr1;exact g k
theorem KV.nil:KV u [] (fun z9=>none):=⟨[],rfl,List.nodup_nil,fun z9 m=>(nomatch m),fun z9=>rfl⟩
theorem KV.of (h:KV u d f) {g:Key→Option V} (e:∀ k,f k=g k):KV u d g:=by refine er (Eq.symm (funext e)) ?_;exact h
theorem KV.set (h:KV u d f) (m:k∈u):KV u (Kr d k v) (fun j=>if j=k then some v else f j):=by
 refine x13 h ?_;clear h;intro l zr1 n hu g;subst zr1
 have z:∃ l',Kr (kvs l) k v=kvs l'∧(∀ j,j∈l'.map (·.1)→j=k∨j∈l.map (·.1))∧(l'.map (·.1)).Nodup∧∀ j,kE (kvs l') j=if j=k then some v else kE (kvs l) j:=by
  clear g hu
  induction l with
  | nil=>exact ⟨[(k,v)],rfl,fun j m=>.inl (List.mem_singleton.1 m),List.nodup_cons.2 ⟨fun m=>(nomatch m),List.nodup_nil⟩,fun j=>by
    show kE [(k.v,v)] j=_
    rw[wx]
    by_cases e:j=k
    ·rw[if_pos e,if_pos e.symm]
    ·rw[if_neg e,if_neg fun q=>e q.symm];rfl⟩
  | cons x r ih =>
   obtain ⟨n1,n2⟩:=List.nodup_cons.1 n
   have e1:Kr (kvs (x::r)) k v=_:=K0I x.1 k x.2 v (kvs r)
   by_cases e:x.1=k
   ·refine ⟨(x.1,v)::r,e1.trans (if_pos e),fun j m=>.inr m,n,fun j=>?_⟩
    show kE ((x.1.v,v)::kvs r) j=if j=k then some v else kE ((x.1.v,x.2)::kvs r) j
    rw[wx,wx,e]
    by_cases q:j=k
    ·rw[if_pos q.symm,if_pos q]
    ·rw[if_neg fun z=>q z.symm,if_neg q,if_neg fun z=>q z.symm]
   ·refine x13 (ih n2) fun l' a b c g=>?_
    refine ⟨x::l',(e1.trans (if_neg e)).trans (congrArg ((x.1.v,x.2)::·) a),fun j m=>?_,List.nodup_cons.2 ⟨fun m=>(b _ m).elim e n1,c⟩,fun j=>?_⟩
    ·rcases List.mem_cons.1 m with m | m
     ·exact .inr (m▸List.mem_cons_self)
     ·exact (b j m).imp id (List.mem_cons_of_mem _)
    ·show kE ((x.1.v,x.2)::kvs l') j=if j=k then some v else kE ((x.1.v,x.2)::kvs r) j
     rw[wx,wx,g]
     by_cases q:j=k
     ·rw[if_pos q,if_pos q,if_neg fun z=>e (z.trans q)]
     ·rw[if_neg q,if_neg q]
 refine x13 z ?_;clear z;intro l' a b c g'
 refine ⟨l',a,c,fun x m'=>?_,fun j=>by rw[g',g]⟩
 rcases b x.1 (List.mem_map.2 ⟨x,m',rfl⟩) with q | q
 ·exact q▸m
 ·refine x11 (List.mem_map.1 q) fun y my ey=>?_;exact ey▸hu y my
theorem KV.del (h:KV u d f):KV u (jS d k) (fun j=>if j=k then none else f j):=by
 refine x13 h ?_;clear h;intro l zr1 n hu g;subst zr1
 have z:∃ l',jS (kvs l) k=kvs l'∧(∀ j,j∈l'.map (·.1)→j∈l.map (·.1))∧(l'.map (·.1)).Nodup∧∀ j,kE (kvs l') j=if j=k then none else kE (kvs l) j:=by
  clear g hu
  induction l with
  | nil=>exact ⟨[],rfl,fun j m=>m,n,fun j=>by split <;> rfl⟩
  | cons x r ih =>
   obtain ⟨n1,n2⟩:=List.nodup_cons.1 n
   have e1:jS (kvs (x::r)) k=_:=K0G x.1 k x.2 (kvs r)
   by_cases e:x.1=k
   ·refine ⟨r,e1.trans (if_pos e),fun j m=>List.mem_cons_of_mem _ m,n2,fun j=>?_⟩
    show _=if j=k then none else kE ((x.1.v,x.2)::kvs r) j
    rw[wx]
    by_cases q:j=k
    ·rw[if_pos q];exact k0a.2 (by rw[q,← e];exact n1)
    ·rw[if_neg q,if_neg fun z=>q (z.symm.trans e)]
   ·refine x13 (ih n2) fun l' a b c g=>?_
    refine ⟨x::l',(e1.trans (if_neg e)).trans (congrArg ((x.1.v,x.2)::·) a),fun j m=>?_,List.nodup_cons.2 ⟨fun m=>n1 (b _ m),c⟩,fun j=>?_⟩
    ·rcases List.mem_cons.1 m with m | m
     ·exact m▸List.mem_cons_self
     ·exact List.mem_cons_of_mem _ (b j m)
    ·show kE ((x.1.v,x.2)::kvs l') j=if j=k then none else kE ((x.1.v,x.2)::kvs r) j
     rw[wx,wx,g]
     by_cases q:j=k
     ·rw[if_pos q,if_pos q,if_neg fun z=>e (z.trans q)]
     ·rw[if_neg q,if_neg q]
 refine x13 z ?_;clear z;intro l' a b c g'
 refine ⟨l',a,c,fun x m'=>?_,fun j=>by rw[g',g]⟩
 refine x11 (List.mem_map.1 (b x.1 (List.mem_map.2 ⟨x,m',rfl⟩))) fun y my ey=>?_;exact ey▸hu y my
theorem k3G {α:Type} [DecidableEq α]:∀ {l u:List α},l.Nodup→(∀ x∈l,x∈u)→l.length≤u.length
 | [],_,_,_=>Nat.zero_le _
 | x::r,u,n,h=>by
  obtain ⟨n1,n2⟩:=List.nodup_cons.1 n
  have m:=h x List.mem_cons_self
  have:=k3G (l:=r) (u:=u.erase x) n2 fun y my=>(List.mem_erase_of_ne (fun e:y=x=>n1 (e▸my))).2 (h y (List.mem_cons_of_mem _ my))
  rw[List.length_erase_of_mem m] at this
  have:=List.length_pos_of_mem m
  show r.length+1≤_;lia
theorem KV.len (h:KV u d f):d.length≤u.length:=by
 refine x13 h ?_;clear h;intro l zr1 n hu g;subst zr1
 refine er (List.length_map _) ?_;rw[← List.length_map (f:=(·.1))]
 exact k3G n fun x m=>by refine x11 (List.mem_map.1 m) fun y my ey=>?_;exact ey▸hu y my
theorem KV.keys (h:KV u d f):∃ ks:List Key,d.map (·.1)=ks.map Key.v∧ks.Nodup∧(∀ k,k∈ks↔f k≠none)∧ks.length≤u.length∧d.isEmpty=ks.isEmpty:=by
 have hl:=h.len
 refine x13 h ?_;clear h;intro l zr1 n hu g;subst zr1
 refine ⟨l.map (·.1),by rw[List.map_map];refine er List.map_map ?_;rfl,n,fun k=>?_,by rw[List.length_map] at hl ⊢;exact hl,by cases l <;> rfl⟩
 refine er (Eq.symm (g _)) ?_
 exact ⟨fun m e=>k0a.1 e m,fun h=>Classical.byContradiction fun m=>h (k0a.2 m)⟩
theorem KV.empty (h:KV u d f):d.isEmpty=true↔∀ k,f k=none:=by
 refine x14 h.keys fun ks z9 z9 e z9 i=>?_
 refine er i ?_
 cases ks with
 | nil=>exact ⟨fun z9 k=>Classical.byContradiction fun z=>(nomatch (e k).2 z),fun z9=>rfl⟩
 | cons x r=>exact ⟨fun q=>(nomatch q),fun q=>absurd (q x) ((e x).1 List.mem_cons_self)⟩
end
noncomputable def k1b (f m:By):By:=if f=[] then m else f++[47]++m
noncomputable def k6I:By→List By→List (By×By)
 | _,[]=>[]
 | f,p::r=>(f,p)::k6I (k1b f p) r
noncomputable def Jv (b:By):List (By×By):=k6I [] (kz 47 b)
theorem k7Y {n:Nat} {f m:By} (l:f.length≤1000) (l2:m.length≤1000):uS K (n+1) qD [.bytes f,.bytes m] (.bytes (k1b f m)):=fun {σ Q X} k=>by
 refine kj yT [some (.bytes f),some (.bytes m)] rfl rfl ?_
 refine Ku (b:=f==[]) (fun h=>?_) (fun h=>?_)
 ·have z:=k σ .refl
  unfold k1b at z;rw[if_pos (eq_of_beq h)] at z;exact z
 ·have z:=k σ .refl
  unfold k1b at z;rw[if_neg (ne_of_beq_false h)] at z
  exact ⟨ky (by show _+1≤_;lia),ky (by refine er List.length_append ?_;show _+1+_≤_;lia),z⟩
noncomputable def k7z (b:By):Prop:=b.length≤1000∧(∀ p∈kz 47 b,p≠[])∧(∀ x∈Jv b,x.1.length≤1000∧x.2.length≤1000)∧(Jv b).length≤100∧(kz 47 b).length≤100
noncomputable abbrev K0M (x:By×By):V:=.tup [.bytes x.1,.bytes x.2]
noncomputable def parI (b:By) (r:Addr) (σ3:Sto) (_:List By) (q:List By) (x:By×Option V) (σ':Sto):Prop:=∀ G:Prop,(∀ d,Fr (·=r) σ3 σ'→Jv b=d++k6I x.1 q→σ'.get r=some (.list (d.map K0M))→G)→G
theorem yW {n:Nat} {b:By} (p:k7z b) {σ:Sto} {Q:QV} {X:QX} (k:∀ r σ',New σ σ'→¬ σ.has r→σ'.get r=some (.list ((Jv b).map K0M))→Q (.ref r) σ'):K.C (n+2) ji [.bytes b] σ Q X:=by
 refine x04 p ?_;clear p;intro p1 p2 p3 p4 p5
 refine kj QO [some (.bytes b),none,none,none,none] rfl rfl ?_
 refine And.intro (Nat.le_trans p1 (by decide)) ?_
 refine fun s hs=>?_
 refine Kj kb (ky (by refine er (List.length_map _) ?_;lia)) ?_
 refine wX (kz 47 b) (fun p=>.bool (p != [])) (fun a e=>by injection e with e;subst e;exact yk) (ky (by lia)) (fun x z9 σ z9 KK k=>And.intro rfl (k _ .refl)) fun σ1 c n1 hc=>?_
 refine K0Y (bs:=(kz 47 b).map fun p=>p != []) (by rw[List.map_map];exact kb) ?_
 have hall:((kz 47 b).map fun p=>p != []).all id=true:=by
  rw[List.all_eq_true];intro x m;refine x11 (List.mem_map.1 m) fun y my zr2=>?_;subst zr2
  exact bne_iff_ne.2 (p2 y my)
 refine JH (b := !(((kz 47 b).map fun p=>p != []).all id)) (by refine er hall ?_;rfl) ?_
 refine fun r hr=>?_
 have hs2:=qv (c':=.list []) hr (qv (c':=.list ((kz 47 b).map fun p=>.bool (p != []))) hc (n1.g (kb (σ:=σ) (a:=s) (c:=.list ((kz 47 b).map .bytes)))))
 refine Kj hs2 (ky (by refine er (List.length_map _) ?_;lia)) ?_
 have nn:New σ (Sto.upd (σ1.upd c (.list ((kz 47 b).map fun p=>.bool (p != [])))) r (.list [])):=(((Fr.refl.new hs).tr n1).new hc).new hr
 have ur:¬ s=r:=fun e=>hr (e▸Sto.has_of (qv (c':=.list ((kz 47 b).map fun p=>.bool (p != []))) hc (n1.g (kb (σ:=σ) (a:=s) (c:=.list ((kz 47 b).map .bytes))))))
 have gr:(Sto.upd (σ1.upd c (.list ((kz 47 b).map fun p=>.bool (p != [])))) r (.list [])).get r=some (.list []):=kb
 have hw:∀ a,σ.has a→(σ1.upd c (.list ((kz 47 b).map fun p=>.bool (p != [])))).has a:=fun a z=>JW (n1.pre_has (JW z))
 generalize Sto.upd (σ1.upd c (.list ((kz 47 b).map fun p=>.bool (p != [])))) r (.list [])=σ3 at nn hs2 gr ⊢
 refine k3s (g:=some s) (fun (x:By×Option V)=>[some (.bytes b),some (.ref s),some (.ref r),some (.bytes x.1),x.2]) (parI b r σ3)
  (fun z9 z9 z9 σ' i=>i _ fun z9 fr z9 z9=>fr.unt ur (Sto.has_of hs2)) (fun z9 y q z9 x σ' i K k z9=>i _ fun d fr e g=>?_) (fun x σ' i=>i _ fun d fr e g=>?_) ([],_) fun G w=>w [] .refl rfl gr
 ·have hy:=p3 (x.1,y) (by refine er e ?_;exact List.mem_append_right _ List.mem_cons_self)
  have hl:d.length≤100:=by have:=congrArg List.length e;rw[List.length_append] at this;lia
  refine kK (Ja g).1 ?_
  refine jn g (Yh (by refine er (List.length_map _) ?_;lia)) ?_
  refine k7Y hy.1 hy.2 fun σ2 n2=>?_
  refine k (k1b x.1 y,_) _ _ rfl fun G w=>w (d++[(x.1,y)]) ((fr.set (.inl rfl)).tn n2) (by refine er e ?_;refine er (List.append_assoc _ _ _) ?_;rfl) ?_
  refine er (n2.g kb) ?_;refine er List.map_append ?_;rfl
 ·rw[show k6I x.1 []=[] from rfl,List.append_nil] at e
  rw[e] at k
  exact k r σ' (nn.trans fr fun a e=>.inr (e▸fun z=>hr (hw _ z))) (fun z=>hr (hw _ z)) g
end
section
variable {K:Calls}
noncomputable abbrev Pt:=Fin 4×Bool
noncomputable def nmT (i:Fin 4):Tx:=[[72,69,65,68],[114,101,102,115,47,104,101,97,100,115,47,97],[114,101,102,115,47,104,101,97,100,115,47,97,47,98],[114,101,102,115,47,104,101,97,100,115,47,99]].getD i.val []
theorem f4o:∀ i:Fin 4,i=0∨i=1∨i=2∨i=3:=by decide
theorem f4 (i:Fin 4) {G:Prop} (h0:i=0→G) (h1:i=1→G) (h2:i=2→G) (h3:i=3→G):G :=
 (f4o i).elim h0 fun h=>h.elim h1 fun h=>h.elim h2 h3
noncomputable abbrev ZD:By:=[46,103,105,116,47,108,111,103,115]
noncomputable def pB (p:Pt):By:=ZD++[47]++byt (nmT p.1)++(if p.2 then [46,108,111,99,107] else [])
noncomputable def par (p:Pt):List (By×By):=Jv (pB p)
noncomputable def k0o:List Pt:=[(0,false),(1,false),(2,false),(3,false),(0,true),(1,true),(2,true),(3,true)]
theorem k6q (p:Pt):p∈k0o:=(by decide:∀ (i:Fin 4) (l:Bool),(i,l)∈k0o) p.1 p.2
theorem k2y:k0o.Nodup:=by decide
noncomputable def k5D:List Key:=(k0o.flatMap par).map fun x=>.bytes x.1
noncomputable def Wf:List Key:=(k0o.flatMap par).map fun x=>.bytes x.2
noncomputable def k8r:List Key:=k0o.map fun p=>.bytes (pB p)
theorem k1X:∀ (i:Fin 4) (l:Bool),((pB (i,l)).length≤1000∧(∀ p∈kz 47 (pB (i,l)),p≠[])∧(∀ x∈Jv (pB (i,l)),x.1.length≤1000∧x.2.length≤1000)∧(Jv (pB (i,l))).length≤100∧(kz 47 (pB (i,l))).length≤100)∧(par (i,l)).Nodup:=by decide +kernel
theorem k8n (p:Pt):k7z (pB p):=(k1X p.1 p.2).1
theorem YY (p:Pt):(par p).Nodup:=(k1X p.1 p.2).2
theorem k6d:∀ (i:Fin 4) (l:Bool) (j:Fin 4) (m:Bool),pB (i,l)=pB (j,m)→(i,l)=(j,m):=by decide +kernel
theorem k7v {p q:Pt} (h:pB p=pB q):p=q:=k6d p.1 p.2 q.1 q.2 h
theorem Un:k5D.length≤1000∧Wf.length≤1000:=by decide +kernel
theorem k9E {p:Pt} {x:By×By} (h:x∈par p):Key.bytes x.1∈k5D∧Key.bytes x.2∈Wf :=
 have m:=List.mem_flatMap.2 ⟨p,k6q p,h⟩
 ⟨List.mem_map.2 ⟨x,m,rfl⟩,List.mem_map.2 ⟨x,m,rfl⟩⟩
noncomputable abbrev Con:=Pt→Option By
noncomputable def Con.put (c:Con) (p:Pt) (v:Option By):Con:=fun q=>if q=p then v else c q
noncomputable abbrev Cnt:=By→By→Nat
noncomputable def cnt (con:Con):Cnt:=fun F n=>k0o.countP fun p=>(con p).isSome&&decide ((F,n)∈par p)
noncomputable def belF (adr:By→Option Addr) (k:Key):Option V:=match k with
 | .bytes F=>(adr F).map .ref
 | .str _=>none
noncomputable def k6y (c:By→Nat) (k:Key):Option V:=match k with
 | .bytes n=>if c n=0 then none else some (.int (c n:Nat))
 | .str _=>none
noncomputable def QF (con:Con) (k:Key):Option V:=match k0o.find? fun p=>Key.bytes (pB p)=k with
 | some p=>(con p).map fun b=>.tup [.bytes b,.int 33188]
 | none=>none
structure Bel (σ:Sto) (inn:Addr→Prop) (bd:Addr) (c:Cnt) (adr:By→Option Addr) (x:By→Prop):Prop where
 top:∃ kv,σ.get bd=some (.dict kv)∧KV k5D kv (belF adr)
 inner:∀ F a,adr F=some a→inn a∧∃ d,σ.get a=some (.dict d)∧KV Wf d (k6y (c F))
 zero:∀ F,adr F=none→∀ n,c F n=0
 live:∀ F,¬ x F→adr F≠none→∃ n,c F n≠0
 inj:∀ F G a,adr F=some a→adr G=some a→F=G
 off:¬ inn bd
 has:∀ a,inn a→σ.has a
section
variable {σ σ':Sto} {inn:Addr→Prop} {bd r a:Addr} {c c':Cnt} {adr:By→Option Addr} {x:By→Prop} {F:By} {d kv:List (V×V)} {W:Addr→Prop}
theorem Bel.frame (h:Bel σ inn bd c adr x) (f:Fr W σ σ') (h1:¬ W bd) (h2:∀ a,inn a→¬ W a):Bel σ' inn bd c adr x where
 top:=let ⟨kv,g,k⟩:=h.top;⟨kv,f.get h1 g,k⟩
 inner F a e:=let ⟨i,d,g,k⟩:=h.inner F a e;⟨i,d,f.get (h2 a i) g,k⟩
 zero:=h.zero
 live:=h.live
 inj:=h.inj
 off:=h.off
 has a i:=f.pre_has (h.has a i)
theorem Bel.setIn (h:Bel σ inn bd c adr x) (e:adr F=some a) (k:KV Wf d (k6y (c' F))) (s:∀ G,G≠F→c' G=c G):Bel (σ.upd a (.dict d)) inn bd c' adr (fun G=>x G∨G=F) where
 top:=let ⟨kv,g,k⟩:=h.top;⟨kv,KO (fun q=>h.off (q▸(h.inner F a e).1)) g,k⟩
 inner G b eb:=by
  by_cases q:G=F
  ·subst q;rw[e] at eb;injection eb with eb;subst eb;exact ⟨(h.inner G a e).1,d,kb,k⟩
  ·obtain ⟨i,zz0⟩:=h.inner G b eb;refine x11 zz0 fun d' g k'=>?_
   exact ⟨i,d',KO (fun z=>q (h.inj G F b eb (z▸e))) g,(s G q).symm▸k'⟩
 zero G z n:=by
  by_cases q:G=F
  ·subst q;rw[e] at z;injection z
  ·refine er (s G q) ?_;exact h.zero G z n
 live G nx z:=by refine er (s G fun q=>nx (.inr q)) ?_;exact h.live G (fun q=>nx (.inl q)) z
 inj:=h.inj
 off:=h.off
 has b i:=JW (h.has b i)
theorem Bel.close (h:Bel σ inn bd c adr x) (k:∀ G,x G→∃ n,c G n≠0):Bel σ inn bd c adr (fun z9=>False) :=
 { h with live:=fun G z9 z=>Classical.byCases (fun q:x G=>k G q) fun q=>h.live G q z }
theorem Bel.addF (h:Bel σ inn bd c adr (fun z9=>False)) (e:adr F=none) (hF:Key.bytes F∈k5D) (hr:¬ σ.has r) (g:σ.get bd=some (.dict kv)) :
  Bel ((σ.upd r (.dict [])).upd bd (.dict (Kr kv (.bytes F) (.ref r)))) (fun a=>inn a∨a=r) bd c (fun G=>if G=F then some r else adr G) (fun G=>G=F) where
 top:=by
  refine x11 h.top fun kv' g' k=>?_
  rw[g] at g';cases g'
  refine ⟨_,kb,(k.set hF).of fun j=>?_⟩
  cases j with
  | str s=>refine er (if_neg (fun q=>nomatch q)) ?_;rfl
  | bytes G =>
   show (if Key.bytes G=Key.bytes F then _ else (adr G).map V.ref)=(if G=F then some r else adr G).map V.ref
   by_cases q:G=F
   ·refine er (if_pos q) (er (if_pos (congrArg Key.bytes q)) ?_);rfl
   ·exact er (if_neg q) (er (if_neg fun z=>q (Key.bytes.inj z)) rfl)
 inner G a ea:=by
  replace ea:(if G=F then some r else adr G)=some a:=ea
  have nb:bd≠r:=fun q=>hr (q▸Sto.has_of g)
  by_cases q:G=F
  ·rw[if_pos q] at ea;injection ea with ea;subst ea
   refine ⟨.inr rfl,[],KO nb kb,KV.nil.of fun k=>?_⟩
   cases k with
   | str s=>rfl
   | bytes n=>show none=if c G n=0 then none else _;exact er q (er (if_pos (h.zero F e n)) rfl)
  ·rw[if_neg q] at ea
   obtain ⟨i,zz0⟩:=h.inner G a ea;refine x11 zz0 fun d g2 k=>?_
   exact ⟨.inl i,d,KO (fun z=>h.off (z▸i)) (qv hr g2),k⟩
 zero G z n:=by
  replace z:(if G=F then some r else adr G)=none:=z
  by_cases q:G=F
  ·rw[if_pos q] at z;injection z
  ·rw[if_neg q] at z;exact h.zero G z n
 live G nx z:=by
  replace z:(if G=F then some r else adr G)≠none:=z
  rw[if_neg nx] at z;exact h.live G id z
 inj G H a e1 e2:=by
  replace e1:(if G=F then some r else adr G)=some a:=e1
  replace e2:(if H=F then some r else adr H)=some a:=e2
  have nr:∀ G,adr G≠some r:=fun G q=>hr (h.has r (h.inner G r q).1)
  by_cases q:G=F <;> by_cases p:H=F
  ·exact er q (er p rfl)
  ·rw[if_pos q] at e1;rw[if_neg p] at e2;injection e1 with e1;subst e1;exact absurd e2 (nr _)
  ·rw[if_neg q] at e1;rw[if_pos p] at e2;injection e2 with e2;subst e2;exact absurd e1 (nr _)
  ·rw[if_neg q] at e1;rw[if_neg p] at e2;exact h.inj G H a e1 e2
 off:=fun q=>q.elim h.off fun q=>hr (q▸Sto.has_of g)
 has a i:=JW (i.elim (fun i=>JW (h.has a i)) fun i=>i▸yk)
theorem Bel.popF (h:Bel σ inn bd c adr x) (z:∀ n,c F n=0) (nx:∀ G,x G→G=F) (g:σ.get bd=some (.dict kv)) :
  Bel (σ.upd bd (.dict (jS kv (.bytes F)))) inn bd c (fun G=>if G=F then none else adr G) (fun z9=>False) where
 top:=by
  refine x11 h.top fun kv' g' k=>?_
  rw[g] at g';cases g'
  refine ⟨_,kb,k.del.of fun j=>?_⟩
  cases j with
  | str s=>refine er (if_neg (fun q=>nomatch q)) ?_;rfl
  | bytes G =>
   show (if Key.bytes G=Key.bytes F then _ else (adr G).map V.ref)=(if G=F then none else adr G).map V.ref
   by_cases q:G=F
   ·refine er (if_pos q) (er (if_pos (congrArg Key.bytes q)) ?_);rfl
   ·exact er (if_neg q) (er (if_neg fun z=>q (Key.bytes.inj z)) rfl)
 inner G a ea:=by
  replace ea:(if G=F then none else adr G)=some a:=ea
  by_cases q:G=F
  ·rw[if_pos q] at ea;injection ea
  ·rw[if_neg q] at ea
   obtain ⟨i,zz0⟩:=h.inner G a ea;refine x11 zz0 fun d g2 k=>?_
   exact ⟨i,d,KO (fun z=>h.off (z▸i)) g2,k⟩
 zero G e n:=by
  replace e:(if G=F then none else adr G)=none:=e
  by_cases q:G=F
  ·refine er q ?_;exact z n
  ·rw[if_neg q] at e;exact h.zero G e n
 live G _ e:=by
  replace e:(if G=F then none else adr G)≠none:=e
  by_cases q:G=F
  ·rw[if_pos q] at e;exact absurd rfl e
  ·rw[if_neg q] at e;exact h.live G (fun p=>q (nx G p)) e
 inj G H a e1 e2:=by
  replace e1:(if G=F then none else adr G)=some a:=e1
  replace e2:(if H=F then none else adr H)=some a:=e2
  by_cases q:G=F
  ·rw[if_pos q] at e1;injection e1
  ·by_cases p:H=F
   ·rw[if_pos p] at e2;injection e2
   ·rw[if_neg q] at e1;rw[if_neg p] at e2;exact h.inj G H a e1 e2
 off:=h.off
 has a i:=JW (h.has a i)
end
noncomputable def inc (c:Cnt) (x:By×By):Cnt:=fun G m=>if (G,m)=x then c G m+1 else c G m
noncomputable def dec (c:Cnt) (x:By×By):Cnt:=fun G m=>if (G,m)=x then c G m-1 else c G m
theorem uw {f g:Pt→Bool} {p:Pt} (hf:f p=false) (hg:g p=true) (e:∀ q,q≠p→g q=f q):∀ {l:List Pt},l.Nodup→l.countP g=l.countP f+(if p∈l then 1 else 0)
 | [],_=>rfl
 | q::l,n=>by
  obtain ⟨n1,n2⟩:=List.nodup_cons.1 n
  have ih:=uw hf hg e n2
  refine er List.countP_cons (er List.countP_cons (er ih ?_))
  by_cases z:q=p
  ·subst z;refine er hf (er hg (er (if_neg n1) (er (if_pos List.mem_cons_self) ?_)));rfl
  ·refine er (e q z) ?_
   have:(p∈q::l)=(p∈l):=propext ⟨fun m=>(List.mem_cons.1 m).elim (fun y=>absurd y.symm z) id,List.mem_cons_of_mem _⟩
   simp only[this];lia
theorem k5g {con:Con} {p:Pt} {b:By} (h:con p=none) (G m:By):cnt (con.put p (some b)) G m=cnt con G m+(if (G,m)∈par p then 1 else 0):=by
 by_cases q:(G,m)∈par p
 ·have:=uw (p:=p) (f:=fun p=>(con p).isSome&&decide ((G,m)∈par p)) (g:=fun p'=>((con.put p (some b)) p').isSome&&decide ((G,m)∈par p')) (by refine er h ?_;rfl)
   (by unfold Con.put;refine er (if_pos rfl) (er (decide_eq_true q) ?_);rfl) (fun q' z=>by unfold Con.put;exact er (if_neg z) rfl) k2y
  rw[if_pos (k6q p)] at this
  refine er (if_pos q) ?_;exact this
 ·rw[if_neg q]
  show k0o.countP (fun p'=>((con.put p (some b)) p').isSome&&decide ((G,m)∈par p'))=k0o.countP (fun p=>(con p).isSome&&decide ((G,m)∈par p))
  refine congrArg (k0o.countP ·) (funext fun q'=>?_)
  by_cases z:q'=p
  ·refine er z ?_;refine er (decide_eq_false q) ?_;refine er (Bool.and_false _) ?_;refine er (Bool.and_false _) ?_;rfl
  ·unfold Con.put;exact er (if_neg z) rfl
theorem k4Y {con:Con} {p:Pt} {b:By} (h:con p=some b) (G m:By):cnt (con.put p none) G m+(if (G,m)∈par p then 1 else 0)=cnt con G m:=by
 have e:con=(con.put p none).put p (some b):=by
  funext q;unfold Con.put
  by_cases z:q=p
  ·exact er (if_pos z) (er z (er h rfl))
  ·exact er (if_neg z) (er (if_neg z) rfl)
 have:=k5g (con:=con.put p none) (p:=p) (b:=b) (by unfold Con.put;exact er (if_pos rfl) rfl) G m
 rw[← e] at this;exact this.symm
end
section
variable {K:Calls}
section
variable {a:Addr} {d:List (V×V)} {k:Key} {x v w:V} {σ:Sto} {Q:QV}
theorem k0Z (h:σ.get a=some (.dict d)) (l:d.length≤1000) (e:kE d k=some x) (q:Q x σ):jI .dsetdef (.ref a) [k.v,v] σ Q:=okD h (kN (JI k) ⟨l,by refine er e ?_;exact q⟩)
theorem k0D (h:σ.get a=some (.dict d)) (l:d.length≤1000) (e:kE d k=none) (q:Q v (σ.upd a (.dict (Kr d k v)))):jI .dsetdef (.ref a) [k.v,v] σ Q:=okD h (kN (JI k) ⟨l,by refine er e ?_;exact q⟩)
theorem wO (h:σ.get a=some (.dict d)) (l:d.length≤1000) (e:kE d k=some x) (q:Q x (σ.upd a (.dict (jS d k)))):jI .dpop (.ref a) [k.v] σ Q:=okD h (kN (JI k) ⟨l,by refine er e ?_;exact q⟩)
theorem k3i (h:σ.get a=some (.dict d)) (l:d.length≤1000) (e:kE d k=some x) (q:Q x (σ.upd a (.dict (jS d k)))):jI .dpop (.ref a) [k.v,v] σ Q:=okD h (kN (JI k) ⟨l,by refine er e ?_;exact q⟩)
theorem k2G (h:σ.get a=some (.dict d)) (l:d.length≤1000) (e:kE d k=none) (q:Q v σ):jI .dpop (.ref a) [k.v,v] σ Q:=okD h (kN (JI k) ⟨l,by refine er e ?_;exact q⟩)
theorem k2t (h:σ.get a=some (.dict d)) (e:(kE d k).getD v=w) (q:Q w σ):jI .dget (.ref a) [k.v,v] σ Q:=k4G h (by refine er e ?_;exact q)
end
noncomputable abbrev KD (lv:V) (fd bd:Addr):List (V×V):=[(K1M,lv),(k93,.ref fd),(k9W,.ref bd)]
theorem k1Q {c:Cnt} {F m:By} {d:List (V×V)} (k:KV Wf d (k6y (c F))) (hm:Key.bytes m∈Wf):KV Wf (Kr d (.bytes m) (.int ((c F m:Nat)+1))) (k6y (inc c (F,m) F)) :=
 (k.set hm).of fun j=>by
  cases j with
  | str s=>exact if_neg fun q=>nomatch q
  | bytes n =>
   show (if Key.bytes n=Key.bytes m then some (V.int ((c F m:Nat)+1)) else if c F n=0 then none else some (.int (c F n:Nat)))=if (if (F,n)=(F,m) then c F n+1 else c F n)=0 then none else some (.int ((if (F,n)=(F,m) then c F n+1 else c F n:Nat)))
   by_cases q:n=m
   ·refine er q (er (if_pos rfl) (er (if_pos rfl) (er (if_neg (Nat.succ_ne_zero _)) ?_)));rfl
   ·exact er (if_neg fun z=>q (Key.bytes.inj z)) (er (if_neg fun z=>q (Prod.mk.inj z).2) rfl)
theorem k2r (c:Cnt) (x:By×By):inc c x x.1 x.2=c x.1 x.2+1:=if_pos rfl
theorem k1M {c:By→Nat} {m:By} {d:List (V×V)} (k:KV Wf d (k6y c)):(kE d (.bytes m)).getD (.int 0)=.int (c m:Nat):=by
 refine er k.get ?_
 show (if c m=0 then none else some (V.int (c m:Nat))).getD (.int 0)=_
 by_cases z:c m=0
 ·refine er (if_pos z) (er z ?_);rfl
 ·refine er (if_neg z) ?_;rfl
theorem k5o {n:Nat} {σ:Sto} {inn:Addr→Prop} {d dd fd bd:Addr} {c:Cnt} {adr:By→Option Addr} {p:Pt} {y:By×By} {lv:V} {o1 o2 o3 o6:Option V} {KK:QS} {X:QXS}
  (ob:Mut ko σ d dd (KD lv fd bd)) (h:Bel σ inn bd c adr (fun z9=>False)) (hy:y∈par p) (nd:dd≠bd)
  (k:∀ inn' adr' o σ',Fr (fun a=>a=bd∨inn a) σ σ'→(∀ a,inn' a→inn a∨¬ σ.has a)→Bel σ' inn' bd (inc c y) adr' (fun z9=>False)→KK none [some (.ref d),o1,o2,o3,some (.bytes y.1),some (.bytes y.2),o] σ') :
  exs (K.C n) kU [.asg 6 (.meth .dsetdef (.attr ko [98,101,108,111,119] (.loc 0)) [(.loc 4),(.dict [])]),.setI (.loc 6) (.loc 5) (.bin .add (.meth .dget (.loc 6) [(.loc 5),(.cint 0)]) (.cint 1))]
   [some (.ref d),o1,o2,o3,some (.bytes y.1),some (.bytes y.2),o6] σ KK X:=by
 refine bc fun zg=>?_
 obtain ⟨uF,um⟩:=k9E hy
 refine x11 h.top fun kv g kk=>?_
 have lk:=kk.len
 refine zg ?_;clear zg
 refine ob.attr rfl ?_
 refine kK (jY g).2.1 ?_
 refine fun r hr=>?_
 have g1:(σ.upd r (.dict [])).get bd=some (.dict kv):=qv hr g
 cases e:adr y.1 with
 | some a =>
  refine bc fun zg=>?_
  obtain ⟨ia,zz0⟩:=h.inner _ _ e;refine x11 zz0 fun dn gd kd=>?_
  have ld:=kd.len
  have g2:(σ.upd r (.dict [])).get a=some (.dict dn):=qv hr gd
  refine zg ?_;clear zg
  refine k0Z (k:=.bytes y.1) g1 (Nat.le_trans lk Un.1) (by refine er kk.get ?_;show (adr y.1).map V.ref=_;refine er e ?_;rfl) ?_
  refine kK (jY g2).1 ?_
  refine k2t (k:=.bytes y.2) g2 (k1M kd) ?_
  refine Qn (k:=.bytes y.2) g2 (Nat.le_trans ld Un.2) ?_
  have b1:=h.frame (Fr.refl.new hr:New σ (σ.upd r (.dict []))) id fun z9 z9=>id
  have b2:=(b1.setIn (c':=inc c y) e (k1Q kd um) (fun G q=>funext fun m=>if_neg fun z=>q (congrArg Prod.fst z))).close (fun G q=>⟨y.2,by
   rcases q with q | q
   ·exact q.elim
   ·refine er q ?_;refine er (k2r _ _) ?_;exact Nat.succ_ne_zero _⟩)
  exact k inn adr _ _ ((Fr.refl.new hr).set (.inl (.inr ia))) (fun a=>.inl) b2
 | none =>
  have z:=h.zero _ e
  refine k0D (k:=.bytes y.1) g1 (Nat.le_trans lk Un.1) (by refine er kk.get ?_;show (adr y.1).map V.ref=_;refine er e ?_;rfl) ?_
  refine bc fun zg=>?_
  have b1:=h.addF e uF hr g
  have e1:(fun G=>if G=y.1 then some r else adr G) y.1=some r:=if_pos rfl
  obtain ⟨_,zz0⟩:=b1.inner _ _ e1;refine x11 zz0 fun dn g2 kd=>?_
  have ld:=kd.len
  refine zg ?_;clear zg
  refine kK (jY g2).1 ?_
  refine k2t (k:=.bytes y.2) g2 (k1M kd) ?_
  refine Qn (k:=.bytes y.2) g2 (Nat.le_trans ld Un.2) ?_
  have b2:=(b1.setIn (c':=inc c y) e1 (k1Q kd um) (fun G q=>funext fun m=>if_neg fun z=>q (congrArg Prod.fst z))).close (fun G q=>⟨y.2,by
   refine er (q.elim id id) ?_;refine er (k2r _ _) ?_;exact Nat.succ_ne_zero _⟩)
  exact k (fun a=>inn a∨a=r) _ _ _ (((Fr.refl.new hr).set (.inl (.inl rfl))).set (.inr hr)) (fun a i=>i.imp id fun (q:a=r)=>q▸hr) b2
theorem k61 {c:Cnt} {F m:By} {d:List (V×V)} (k:KV Wf d (k6y (c F))) (hm:Key.bytes m∈Wf) (h:c F m≠1) (h0:c F m≠0):KV Wf (Kr d (.bytes m) (.int ((c F m:Nat)-1))) (k6y (dec c (F,m) F)) :=
 (k.set hm).of fun j=>by
  cases j with
  | str s=>exact if_neg fun q=>nomatch q
  | bytes n =>
   show (if Key.bytes n=Key.bytes m then some (V.int ((c F m:Nat)-1)) else if c F n=0 then none else some (.int (c F n:Nat)))=if (if (F,n)=(F,m) then c F n-1 else c F n)=0 then none else some (.int ((if (F,n)=(F,m) then c F n-1 else c F n:Nat)))
   by_cases q:n=m
   ·exact er q (er (if_pos rfl) (er (if_pos rfl) (er (if_neg (by lia)) (er (show (((c F m-1:Nat)):Int)=(c F m:Nat)-1 by lia) rfl))))
   ·exact er (if_neg fun z=>q (Key.bytes.inj z)) (er (if_neg fun z=>q (Prod.mk.inj z).2) rfl)
theorem k19 {c:Cnt} {F m:By} {d:List (V×V)} {v:V} (k:KV Wf d (k6y (c F))) (hm:Key.bytes m∈Wf) (h:c F m=1):KV Wf (jS (Kr d (.bytes m) v) (.bytes m)) (k6y (dec c (F,m) F)) :=
 ((k.set hm).del).of fun j=>by
  cases j with
  | str s=>refine er (if_neg fun q=>nomatch q) ?_;exact if_neg fun q=>nomatch q
  | bytes n =>
   show (if Key.bytes n=Key.bytes m then none else if Key.bytes n=Key.bytes m then some v else if c F n=0 then none else some (.int (c F n:Nat)))=if (if (F,n)=(F,m) then c F n-1 else c F n)=0 then none else some (.int ((if (F,n)=(F,m) then c F n-1 else c F n:Nat)))
   by_cases q:n=m
   ·refine er q (er (if_pos rfl) (er (if_pos rfl) (er h ?_)));rfl
   ·exact er (if_neg fun z=>q (Key.bytes.inj z)) (er (if_neg fun z=>q (Key.bytes.inj z)) (er (if_neg fun z=>q (Prod.mk.inj z).2) rfl))
theorem Zn {n:Nat} {σ:Sto} {inn:Addr→Prop} {d dd fd bd a:Addr} {c:Cnt} {adr:By→Option Addr} {F m:By} {lv:V} {o1:Option V} {KK:QS} {X:QXS}
  (ob:Mut ko σ d dd (KD lv fd bd)) (h:Bel σ inn bd c adr (fun G=>G=F)) (e:adr F=some a)
  (k:∀ adr' σ',Fr (fun a=>a=bd∨inn a) σ σ'→Bel σ' inn bd c adr' (fun z9=>False)→KK none [some (.ref d),o1,some (.bytes F),some (.bytes m),some (.ref a)] σ') :
  exs (K.C n) kU [.ite (.cmp .eq (.loc 4) (.dict [])) [.expr (.meth .dpop (.attr ko [98,101,108,111,119] (.loc 0)) [(.loc 2)])] []]
   [some (.ref d),o1,some (.bytes F),some (.bytes m),some (.ref a)] σ KK X:=by
 refine bc fun zg=>?_
 obtain ⟨ia,zz0⟩:=h.inner _ _ e;refine x11 zz0 fun dn gd kd=>?_
 refine x11 h.top fun kv g kk=>?_
 refine zg ?_;clear zg
 refine fun r hr=>?_
 have nw:New σ (σ.upd r (.dict [])):=Fr.refl.new hr
 have b1:=h.frame nw id fun z9 z9=>id
 refine K0O (nw.g gd) kb ?_
 refine Ku (b:=dn.isEmpty) (fun z=>?_) fun z=>?_
 ·have ze:∀ n,c F n=0:=fun n=>by
   have:=kd.empty.1 z (.bytes n)
   replace this:(if c F n=0 then none else some (V.int (c F n:Nat)))=none:=this
   by_cases y:c F n=0
   ·exact y
   ·rw[if_neg y] at this;injection this
  refine (ob.fr nw id id).attr rfl ?_
  refine kK (jY (nw.g g)).2.2 ?_
  refine wO (k:=.bytes F) (nw.g g) (Nat.le_trans kk.len Un.1) (by refine er kk.get ?_;show (adr F).map V.ref=_;refine er e ?_;rfl) ?_
  exact k _ _ (nw.fr.set (.inl (.inl rfl))) (b1.popF ze (fun z9 q=>q) (nw.g g))
 ·refine k _ _ nw.fr (b1.close fun G q=>Classical.byContradiction fun y=>?_)
  have:dn.isEmpty=true:=kd.empty.2 fun j=>by
   cases j with
   | str s=>rfl
   | bytes n=>exact if_pos (Classical.byContradiction fun w=>y ⟨n,q▸w⟩)
  rw[this] at z;injection z
theorem k06 {n:Nat} {σ:Sto} {inn:Addr→Prop} {d dd fd bd:Addr} {c:Cnt} {adr:By→Option Addr} {p:Pt} {y:By×By} {lv:V} {o1 o4:Option V} {KK:QS} {X:QXS}
  (ob:Mut ko σ d dd (KD lv fd bd)) (h:Bel σ inn bd c adr (fun z9=>False)) (hy:y∈par p) (h0:c y.1 y.2≠0) (nd:¬ inn d∧¬ inn dd)
  (k:∀ adr' o σ',Fr (fun a=>a=bd∨inn a) σ σ'→Bel σ' inn bd (dec c y) adr' (fun z9=>False)→KK none [some (.ref d),o1,some (.bytes y.1),some (.bytes y.2),o] σ') :
  exs (K.C n) kU [.asg 4 (.sub (.attr ko [98,101,108,111,119] (.loc 0)) (.loc 2)),.augI .sub (.loc 4) (.loc 3) (.cint 1),.ite (.cmp .eq (.sub (.loc 4) (.loc 3)) (.cint 0)) [.expr (.meth .dpop (.loc 4) [(.loc 3)])] [],.ite (.cmp .eq (.loc 4) (.dict [])) [.expr (.meth .dpop (.attr ko [98,101,108,111,119] (.loc 0)) [(.loc 2)])] []]
   [some (.ref d),o1,some (.bytes y.1),some (.bytes y.2),o4] σ KK X:=by
 refine bc fun zg=>?_
 obtain ⟨uF,um⟩:=k9E hy
 refine x11 h.top fun kv g kk=>?_
 refine zg ?_;clear zg
 cases e:adr y.1 with
 | none=>exact absurd (h.zero _ e _) h0
 | some a =>
  refine bc fun zg=>?_
  obtain ⟨ia,zz0⟩:=h.inner _ _ e;refine x11 zz0 fun dn gd kd=>?_
  have ld:=Nat.le_trans kd.len Un.2
  refine zg ?_;clear zg
  have kg:kE dn (.bytes y.2)=some (.int (c y.1 y.2:Nat)):=by refine er kd.get ?_;exact if_neg h0
  have ns:∀ G,G≠y.1→dec c y G=c G:=fun G q=>funext fun m=>if_neg fun z=>q (congrArg Prod.fst z)
  refine ob.attr rfl ?_
  refine jX (k:=.bytes y.1) g (by refine er kk.get ?_;show (adr y.1).map V.ref=_;refine er e ?_;rfl) ?_
  refine jX (k:=.bytes y.2) gd kg ?_
  refine Qn (k:=.bytes y.2) gd ld ?_
  have kg2:kE (Kr dn (.bytes y.2) (.int ((c y.1 y.2:Nat)-1))) (.bytes y.2)=some (.int ((c y.1 y.2:Nat)-1)):=by refine er ((kd.set um).get) ?_;exact if_pos rfl
  have ob2:∀ {x},Mut ko (σ.upd a x) d dd (KD lv fd bd):=ob.fr (W:=inn) (Fr.refl.set (.inl ia)) nd.1 nd.2
  refine jX (k:=.bytes y.2) kb kg2 ?_
  refine Ku (b:=((c y.1 y.2:Nat):Int)-1==0) (fun z=>?_) fun z=>?_
  ·refine kK (jY kb).2.2 ?_
   refine wO (k:=.bytes y.2) kb (by have:=(kd.set um (v:=.int ((c y.1 y.2:Nat)-1))).len;exact Nat.le_trans this Un.2) kg2 ?_
   have b2:=h.setIn (c':=dec c y) e (k19 (v:=.int ((c y.1 y.2:Nat)-1)) kd um (by have:=eq_of_beq z;lia)) ns
   have b3:Bel ((σ.upd a (.dict (Kr dn (.bytes y.2) (.int ((c y.1 y.2:Nat)-1))))).upd a (.dict (jS (Kr dn (.bytes y.2) (.int ((c y.1 y.2:Nat)-1))) (.bytes y.2)))) inn bd (dec c y) adr (fun G=>G=y.1) :=
    { (((h.setIn (c':=c) e kd fun z9 z9=>rfl).setIn (d:=jS (Kr dn (.bytes y.2) (.int ((c y.1 y.2:Nat)-1))) (.bytes y.2)) (c':=dec c y) e (k19 kd um (by have:=eq_of_beq z;lia)) ns)) with
     top:=⟨kv,KO (fun q=>h.off (q▸ia)) (KO (fun q=>h.off (q▸ia)) g),kk⟩
     inner:=fun G b eb=>by
      obtain ⟨i,zz0⟩:=b2.inner G b eb;refine x11 zz0 fun d' g' k'=>?_
      refine ⟨i,d',?_,k'⟩
      rw[Sto.get_upd] at g' ⊢;split at g'
      ·rename_i q;refine er (if_pos q) ?_;exact g'
      ·rename_i q;refine er (if_neg q) (er (Sto.get_upd_ne _ _ q) ?_);exact g'
     live:=fun G nx z=>b2.live G (fun q=>q.elim id nx) z
     has:=fun b i=>JW (JW (h.has b i)) }
   refine Zn (ob2.fr (W:=inn) (Fr.refl.set (.inl ia)) nd.1 nd.2) b3 e fun adr' σ' f b=>?_
   exact k adr' _ σ' (((Fr.refl.set (.inl (.inr ia))).set (.inl (.inr ia))).tr f) b
  ·have b2:=h.setIn (c':=dec c y) e (k61 kd um (by have:=ne_of_beq_false z;lia) h0) ns
   refine Zn ob2 { b2 with live:=fun G nx z=>b2.live G (fun q=>q.elim id nx) z } e fun adr' σ' f b=>?_
   exact k adr' _ σ' ((Fr.refl.set (.inl (.inr ia))).tr f) b
end
section
variable {K:Calls}
structure Dk where
 d:Addr
 dd:Addr
 fd:Addr
 bd:Addr
 inn:Addr→Prop
noncomputable def Dk.w (D:Dk) (i:Addr→Prop):Dk:=⟨D.d,D.dd,D.fd,D.bd,i⟩
noncomputable def Dk.own (D:Dk) (a:Addr):Prop:=a=D.dd∨a=D.fd∨a=D.bd∨D.inn a
noncomputable def JG:Option Int→V
 | none=>.none
 | some i=>.int i
noncomputable def fV (b:By):V:=.tup [.bytes b,.int 33188]
structure kq (σ:Sto) (D:Dk) (left:Option Int) (con:Con):Prop where
 obj:Mut ko σ D.d D.dd (KD (JG left) D.fd D.bd)
 files:∃ kf,σ.get D.fd=some (.dict kf)∧KV k8r kf (QF con)
 bel:∃ adr,Bel σ D.inn D.bd (cnt con) adr (fun z9=>False)
 ne:D.dd≠D.fd∧D.dd≠D.bd∧D.fd≠D.bd∧D.d≠D.fd∧D.d≠D.bd
 sep:¬ D.inn D.d∧¬ D.inn D.dd∧¬ D.inn D.fd
noncomputable def kJ (D:Dk) (σ:Sto) (i:Addr→Prop) (σ':Sto):Prop:=Fr D.own σ σ'∧∀ a,i a→D.inn a∨¬ σ.has a
section
variable {σ σ' σ₁ σ₂:Sto} {D:Dk} {left l2:Option Int} {con:Con} {i j W:Addr→Prop}
theorem kJ.refl:kJ D σ D.inn σ:=⟨.refl,fun z9=>.inl⟩
theorem kJ.new (h:New σ σ'):kJ D σ D.inn σ':=⟨h.fr,fun z9=>.inl⟩
theorem kJ.trans (h:kJ D σ i σ₁) (k:kJ (D.w i) σ₁ j σ₂):kJ D σ j σ₂ :=
 ⟨h.1.trans k.1 fun a e=>by
  rcases e with e | e | e | e
  ·exact .inl (.inl e)
  ·exact .inl (.inr (.inl e))
  ·exact .inl (.inr (.inr (.inl e)))
  ·exact (h.2 a e).imp (fun e=>.inr (.inr (.inr e))) id,fun a e=>(k.2 a e).elim (h.2 a) fun q=>.inr (h.1.nhas q)⟩
theorem kJ.n (h:kJ D σ i σ₁) (k:New σ₁ σ₂):kJ D σ i σ₂:=⟨h.1.tn k,h.2⟩
theorem kq.frame (h:kq σ D left con) (f:Fr W σ σ') (n:∀ a,D.own a→¬ W a) (nd:¬ W D.d):kq σ' D left con where
 obj:=h.obj.fr f nd (n _ (.inl rfl))
 files:=let ⟨kf,g,k⟩:=h.files;⟨kf,f.get (n _ (.inr (.inl rfl))) g,k⟩
 bel:=let ⟨adr,b⟩:=h.bel;⟨adr,b.frame f (n _ (.inr (.inr (.inl rfl)))) fun a e=>n a (.inr (.inr (.inr e)))⟩
 ne:=h.ne
 sep:=h.sep
theorem kq.n (h:kq σ D left con) (f:New σ σ'):kq σ' D left con:=h.frame f (fun z9 z9=>id) id
theorem kq.has (h:kq σ D left con) {a:Addr} (e:D.own a):σ.has a:=by
 rcases e with e | e | e | e
 ·exact e▸Sto.has_of h.obj.2.1
 ·refine x11 h.files fun z9 g z9=>?_;exact e▸Sto.has_of g
 ·obtain ⟨_,b⟩:=h.bel;refine x11 b.top fun z9 g z9=>?_;exact e▸Sto.has_of g
 ·obtain ⟨_,b⟩:=h.bel;exact b.has a e
theorem K0i:∀ (i:Fin 4) (l:Bool),k0o.find? (fun q=>Key.bytes (pB q)=Key.bytes (pB (i,l)))=some (i,l):=by decide +kernel
theorem KY (con:Con) (p:Pt):QF con (.bytes (pB p))=(con p).map fV:=by
 unfold QF;refine er (K0i p.1 p.2) ?_;rfl
theorem Wj {con:Con} {k:Key} (h:∀ p,k≠.bytes (pB p)):QF con k=none:=by
 unfold QF
 rw[List.find?_eq_none.2 fun p z9=>by
  intro q;exact h p (of_decide_eq_true q).symm]
theorem Yt {con:Con} {p:Pt} {v:Option By} (k:Key):(if k=.bytes (pB p) then v.map fV else QF con k)=QF (con.put p v) k:=by
 by_cases e:k=.bytes (pB p)
 ·rw[if_pos e];refine er e ?_;refine er (KY _ _) ?_;unfold Con.put;rw[if_pos rfl]
 ·rw[if_neg e]
  by_cases z:∃ q,k=.bytes (pB q)
  ·obtain ⟨q,rfl⟩:=z
   refine er (KY _ _) ?_;refine er (KY _ _) ?_;unfold Con.put;rw[if_neg fun y=>e (by refine er y ?_;rfl)]
  ·exact er (Wj fun q y=>z ⟨q,y⟩) (er (Wj fun q y=>z ⟨q,y⟩) rfl)
theorem k6Q {con:Con} {p:Pt} {b c:By} (h:con p=some c):cnt (con.put p (some b))=cnt con:=funext fun G=>funext fun m=>by
 show k0o.countP (fun p'=>((con.put p (some b)) p').isSome&&decide ((G,m)∈par p'))=k0o.countP (fun p=>(con p).isSome&&decide ((G,m)∈par p))
 refine congrArg (k0o.countP ·) (funext fun q'=>?_)
 unfold Con.put
 by_cases z:q'=p
 ·refine er (if_pos z) (er z (er h ?_));rfl
 ·exact er (if_neg z) rfl
theorem uJ:∀ {l:List (By×By)} {c:Cnt},l.Nodup→∀ G m,l.foldl inc c G m=c G m+(if (G,m)∈l then 1 else 0)
 | [],_,_,_,_=>rfl
 | x::l,c,n,G,m=>by
  obtain ⟨n1,n2⟩:=List.nodup_cons.1 n
  rw[List.foldl_cons,uJ n2]
  show (if (G,m)=x then c G m+1 else c G m)+_=_
  by_cases z:(G,m)=x
  ·rw[if_pos z];refine er z ?_;rw[if_neg n1,if_pos List.mem_cons_self]
  ·refine er (if_neg z) ?_
   by_cases y:(G,m)∈l
   ·exact er (if_pos y) (er (if_pos (List.mem_cons_of_mem _ y)) rfl)
   ·exact er (if_neg y) (er (if_neg fun q=>(List.mem_cons.1 q).elim z y) rfl)
theorem zi:∀ {l:List (By×By)} {c:Cnt},l.Nodup→∀ G m,l.foldl dec c G m=c G m-(if (G,m)∈l then 1 else 0)
 | [],_,_,_,_=>rfl
 | x::l,c,n,G,m=>by
  obtain ⟨n1,n2⟩:=List.nodup_cons.1 n
  rw[List.foldl_cons,zi n2]
  show (if (G,m)=x then c G m-1 else c G m)-_=_
  by_cases z:(G,m)=x
  ·rw[if_pos z];refine er z ?_;rw[if_neg n1,if_pos List.mem_cons_self];rfl
  ·refine er (if_neg z) ?_
   by_cases y:(G,m)∈l
   ·exact er (if_pos y) (er (if_pos (List.mem_cons_of_mem _ y)) rfl)
   ·exact er (if_neg y) (er (if_neg fun q=>(List.mem_cons.1 q).elim z y) rfl)
end
section
variable {σ:Sto} {D:Dk} {left:Option Int} {con:Con} {n:Nat} {p:Pt} {b:By} {Q:QV} {X:QX}
theorem kq.putFile {σ':Sto} {i:Addr→Prop} {c:Con} {kf':List (V×V)} (h:kq σ D left con) (a:kJ D σ i σ') (o:Fr (fun a=>a=D.fd∨a=D.bd∨D.inn a) σ σ')
  (hf:σ'.get D.fd=some (.dict kf')) (kk:KV k8r kf' (QF c)) (hb:∃ adr,Bel σ' i D.bd (cnt c) adr (fun z9=>False)):kq σ' (D.w i) left c where
 obj:=h.obj.fr o (fun e=>e.elim h.ne.2.2.2.1 fun e=>e.elim h.ne.2.2.2.2 h.sep.1) (fun e=>e.elim h.ne.1 fun e=>e.elim h.ne.2.1 h.sep.2.1)
 files:=⟨kf',hf,kk⟩
 bel:=hb
 ne:=h.ne
 sep:=⟨fun e=>(a.2 _ e).elim h.sep.1 fun q=>q (Sto.has_of h.obj.1),fun e=>(a.2 _ e).elim h.sep.2.1 fun q=>q (h.has (.inl rfl)),fun e=>(a.2 _ e).elim h.sep.2.2 fun q=>q (h.has (.inr (.inl rfl)))⟩
noncomputable def K1P (D:Dk) (con:Con) (σ1:Sto) (dn:List (By×By)) (σ':Sto):Prop:=∀ G:Prop,(∀ inn adr,Fr (fun a=>a=D.bd∨D.inn a) σ1 σ'→(∀ a,inn a→D.inn a∨¬ σ1.has a)→Bel σ' inn D.bd (dn.foldl inc (cnt con)) adr (fun z9=>False)→G)→G
noncomputable def K1s (D:Dk) (con:Con) (σ1:Sto) (dn:List (By×By)) (σ':Sto):Prop:=∀ G:Prop,(∀ adr,Fr (fun a=>a=D.bd∨D.inn a) σ1 σ'→Bel σ' D.inn D.bd (dn.foldl dec (cnt con)) adr (fun z9=>False)→G)→G
theorem zS (h:kq σ D left con) (k:∀ i σ',kJ D σ i σ'→kq σ' (D.w i) left (con.put p (some b))→Q .none σ') :
  K.C (n+3) KQ [.ref D.d,.bytes (pB p),.bytes b,.int 33188] σ Q X:=by
 refine x11 h.files fun kf g kk=>?_
 obtain ⟨adr,hb⟩:=h.bel
 have mU:Key.bytes (pB p)∈k8r:=List.mem_map.2 ⟨p,k6q p,rfl⟩
 have lf:kf.length≤1000:=Nat.le_trans kk.len (by decide)
 refine kj Yj [some (.ref D.d),some (.bytes (pB p)),some (.bytes b),some (.int 33188),none,none,none] rfl rfl ?_
 refine h.obj.attr rfl ?_
 refine QY (k:=.bytes (pB p)) g ?_
 cases e:con p with
 | some old =>
  refine JH (b := !(kE kf (.bytes (pB p))).isSome) (by refine er kk.get ?_;rw[KY,e];rfl) ?_
  refine h.obj.attr rfl ?_
  refine Qn (k:=.bytes (pB p)) g lf ?_
  have o:Fr (fun a=>a=D.fd∨a=D.bd∨D.inn a) σ (σ.upd D.fd (.dict (Kr kf (.bytes (pB p)) (fV b)))):=Fr.refl.set (.inl (.inl rfl))
  have a:kJ D σ D.inn (σ.upd D.fd (.dict (Kr kf (.bytes (pB p)) (fV b)))):=⟨o.mono fun z9 e=>.inl (.inr e),fun z9=>.inl⟩
  exact k D.inn _ a (h.putFile a o kb ((kk.set mU).of fun j=>Yt (v:=some b) j) ⟨adr,by
   refine er (k6Q e) ?_;exact hb.frame (W:=(·=D.fd)) (Fr.refl.set (.inl rfl)) (fun q=>h.ne.2.2.1 q.symm) fun a ia q=>h.sep.2.2 (q▸ia)⟩)
 | none =>
  refine k07 (b := !(kE kf (.bytes (pB p))).isSome) (by refine er kk.get ?_;rw[KY,e];rfl) ?_
  refine yW (k8n p) fun r σ1 n1 hr gr=>?_
  refine Kj gr (ky (by refine er (List.length_map _) ?_;have:=(k8n p).2.2.2.1;exact Nat.le_trans this (by decide))) ?_
  refine wq (g:=some r) (l:=par p) (fun (_:List (By×By)) (o:Option V×Option V×Option V)=>[some (.ref D.d),some (.bytes (pB p)),some (.bytes b),some (.int 33188),o.1,o.2.1,o.2.2])
   (K1P D con σ1) (fun dn σ' i=>i _ fun z9 z9 f z9 z9=>?_) (fun dn y q e1 o σ' i KK k z9=>i _ fun inn adr f ni bl=>?_) (fun o σ' i=>i _ fun inn adr f ni bl=>?_) (_,_,_) (fun G g=>g D.inn adr .refl (fun z9=>.inl) (hb.frame n1 id fun z9 z9=>id))
  ·exact f.unt (fun e=>e.elim (fun e=>hr (e▸h.has (.inr (.inr (.inl rfl))))) fun e=>hr (h.has (.inr (.inr (.inr e))))) (Sto.has_of gr)
  ·refine k5o (p:=p) ((h.obj.fr n1 id id).fr f (fun e=>e.elim h.ne.2.2.2.2 h.sep.1) (fun e=>e.elim h.ne.2.1 h.sep.2.1)) bl (by rw[e1];exact List.mem_append_right _ List.mem_cons_self) h.ne.2.1 fun inn' adr' o σ'' f' ni' bl'=>?_
   exact k (_,_,_) _ _ rfl fun G g=>g inn' adr' (f.trans f' fun a e=>e.elim (fun e=>.inl (.inl e)) fun e=>(ni a e).imp .inr id) (fun a ia=>(ni' a ia).elim (ni a) fun q=>.inr (f.nhas q)) (by rw[List.foldl_append];exact bl')
  ·have ob:=(h.obj.fr n1 id id).fr f (fun e=>e.elim h.ne.2.2.2.2 h.sep.1) (fun e=>e.elim h.ne.2.1 h.sep.2.1)
   have g':=f.get (fun e=>e.elim h.ne.2.2.1 h.sep.2.2) (n1.g g)
   refine ob.attr rfl ?_
   refine Qn (k:=.bytes (pB p)) g' lf ?_
   have o:Fr (fun a=>a=D.fd∨a=D.bd∨D.inn a) σ (σ'.upd D.fd (.dict (Kr kf (.bytes (pB p)) (fV b)))):=(Fr.nt n1 (f.mono fun z9 e=>.inl (.inr e))).set (.inl (.inl rfl))
   have a:kJ D σ inn (σ'.upd D.fd (.dict (Kr kf (.bytes (pB p)) (fV b)))):=⟨o.mono fun z9 e=>.inl (.inr e),fun a ia=>(ni a ia).imp id n1.nhas⟩
   exact k inn _ a (h.putFile a o kb ((kk.set mU).of fun j=>Yt (v:=some b) j) ⟨adr,by
    refine er (show cnt (con.put p (some b))=(par p).foldl inc (cnt con) from funext fun G=>funext fun m=>by rw[uJ (YY p),k5g e]) ?_
    exact bl.frame (W:=(·=D.fd)) (Fr.refl.set (.inl rfl)) (fun q=>h.ne.2.2.1 q.symm) fun a ia q=>(ni a ia).elim (fun z=>h.sep.2.2 (q▸z)) fun z=>z (n1.pre_has (h.has (.inr (.inl q))))⟩)
theorem k11 {c:By} (h:kq σ D left con) (hc:con p=some c) (k:∀ i σ',kJ D σ i σ'→kq σ' (D.w i) left (con.put p none)→Q .none σ') :
  K.C (n+3) Jo [.ref D.d,.bytes (pB p)] σ Q X:=by
 refine x11 h.files fun kf g kk=>?_
 obtain ⟨adr,hb⟩:=h.bel
 have lf:kf.length≤1000:=Nat.le_trans kk.len (by decide)
 refine kj wN [some (.ref D.d),some (.bytes (pB p)),none,none,none] rfl rfl ?_
 refine h.obj.attr rfl ?_
 refine kK (jY g).2.2 ?_
 refine wO (k:=.bytes (pB p)) g lf (by refine er kk.get ?_;rw[KY,hc];rfl) ?_
 have f0:Fr (·=D.fd) σ (σ.upd D.fd (.dict (jS kf (.bytes (pB p))))):=Fr.refl.set (.inl rfl)
 have ob0:=h.obj.fr f0 h.ne.2.2.2.1 h.ne.1
 have hb0:=hb.frame f0 (fun q=>h.ne.2.2.1 q.symm) fun a ia q=>h.sep.2.2 (q▸ia)
 have g0:(σ.upd D.fd (.dict (jS kf (.bytes (pB p))))).get D.fd=some (.dict (jS kf (.bytes (pB p)))):=kb
 have h0:∀ {a},D.own a→Sto.has (σ.upd D.fd (.dict (jS kf (.bytes (pB p))))) a:=fun e=>JW (h.has e)
 generalize σ.upd D.fd (.dict (jS kf (.bytes (pB p))))=σ0 at f0 ob0 hb0 g0 h0 ⊢
 refine yW (k8n p) fun r σ1 n1 hr gr=>?_
 refine Kj gr (ky (by refine er (List.length_map _) ?_;have:=(k8n p).2.2.2.1;exact Nat.le_trans this (by decide))) ?_
 refine wq (g:=some r) (l:=par p) (fun (_:List (By×By)) (o:Option V×Option V×Option V)=>[some (.ref D.d),some (.bytes (pB p)),o.1,o.2.1,o.2.2])
  (K1s D con σ1) (fun dn σ' i=>i _ fun z9 f z9=>?_) (fun dn y q e1 o σ' i KK k z9=>i _ fun adr f bl=>?_) (fun o σ' i=>i _ fun adr f bl=>?_) (_,_,_) (fun G g=>g adr .refl (hb0.frame n1 id fun z9 z9=>id))
 ·exact f.unt (fun e=>e.elim (fun e=>hr (e▸h0 (.inr (.inr (.inl rfl))))) fun e=>hr (h0 (.inr (.inr (.inr e))))) (Sto.has_of gr)
 ·have nn:=YY p
  rw[e1] at nn
  have n1':=List.nodup_append.1 nn
  have my:y∈par p:=by refine er e1 ?_;exact List.mem_append_right _ List.mem_cons_self
  have c0:dn.foldl dec (cnt con) y.1 y.2≠0:=by
   rw[zi n1'.1,if_neg fun m=>n1'.2.2 _ m _ List.mem_cons_self rfl];refine er (Nat.sub_zero _) ?_;rw[← k4Y hc,if_pos my]
   exact Nat.succ_ne_zero _
  refine k06 (p:=p) ((ob0.fr n1 id id).fr f (fun e=>e.elim h.ne.2.2.2.2 h.sep.1) (fun e=>e.elim h.ne.2.1 h.sep.2.1)) bl my c0 ⟨h.sep.1,h.sep.2.1⟩ fun adr' o σ'' f' bl'=>?_
  exact k (_,_,_) _ _ rfl fun G g=>g adr' (f.tr f') (by refine er List.foldl_append ?_;exact bl')
 ·have o:Fr (fun a=>a=D.fd∨a=D.bd∨D.inn a) σ σ':=((f0.mono fun z9 e=>.inl (.inl e)).tn n1).tr (f.mono fun z9 e=>.inl (.inr e))
  have a:kJ D σ D.inn σ':=⟨o.mono fun z9 e=>.inl (.inr e),fun z9=>.inl⟩
  exact k D.inn _ a (h.putFile a o (f.get (fun e=>e.elim h.ne.2.2.1 h.sep.2.2) (n1.g g0)) ((kk.del).of fun j=>Yt (v:=none) j) ⟨adr,by
   refine er (show cnt (con.put p none)=(par p).foldl dec (cnt con) from funext fun G=>funext fun m=>by rw[zi (YY p),← k4Y hc,Nat.add_sub_cancel]) ?_
   exact bl⟩)
end
end
section
variable {K:Calls}
noncomputable def K08 (con:Con) (F:By):Prop:=∃ m,cnt con F m≠0
noncomputable def qO (e:Addr) (σ:Sto):Prop:=∃ d,σ.get e=some (.inst Qv d)
noncomputable def k5h (con:Con) (p:Pt):Prop:=¬ K08 con (pB p)∧∀ x∈par p,QF con (.bytes x.1)=none
section
variable {σ:Sto} {D:Dk} {left:Option Int} {con:Con} {n:Nat} {p:Pt} {b:By} {Q:QV} {X:QX}
theorem K0s {path:By} (h:kq σ D left con) (q:Q (.bool (QF con (.bytes path)).isSome) σ):K.C (n+1) QA [.ref D.d,.bytes path] σ Q X:=by
 refine x11 h.files fun kf g kk=>?_
 refine kj zR [some (.ref D.d),some (.bytes path)] rfl rfl ?_
 refine h.obj.attr rfl ?_
 refine QY (k:=.bytes path) g ?_
 rw[← kk.get] at q;exact q
theorem wr {path:By} {v:Bool} (h:kq σ D left con) (hn:path≠[]) (hv:v=true↔K08 con path) (q:Q (.bool v) σ):K.C (n+1) jo [.ref D.d,.bytes path] σ Q X:=by
 obtain ⟨adr,hb⟩:=h.bel
 refine x11 hb.top fun kv g kk=>?_
 refine kj qV [some (.ref D.d),some (.bytes path)] rfl rfl ?_
 refine JH (b:=path==[]) (beq_false_of_ne hn) ?_
 refine h.obj.attr rfl ?_
 refine QY (k:=.bytes path) g ?_
 have e:(kE kv (.bytes path)).isSome=v:=by
  rw[kk.get,Bool.eq_iff_iff,hv]
  show ((adr path).map V.ref).isSome=true↔_
  cases z:adr path with
  | none=>exact ⟨fun q=>(nomatch q),fun ⟨m,q⟩=>absurd (hb.zero _ z m) q⟩
  | some a=>exact ⟨fun z9=>hb.live _ id (by refine er z ?_;exact fun q=>nomatch q),fun z9=>rfl⟩
 rw[← e] at q;exact q
theorem Yc (h:kq σ D left con) (hp:con p=some b) (q:Q (fV b) σ):K.C (n+1) jm [.ref D.d,.bytes (pB p)] σ Q X:=by
 refine x11 h.files fun kf g kk=>?_
 have e:kE kf (.bytes (pB p))=some (fV b):=by refine er kk.get ?_;rw[KY,hp];rfl
 refine kj QN [some (.ref D.d),some (.bytes (pB p))] rfl rfl ?_
 refine h.obj.attr rfl ?_
 refine QY (k:=.bytes (pB p)) g ?_
 refine JH (b := !(kE kf (.bytes (pB p))).isSome) (by refine er e ?_;rfl) ?_
 refine h.obj.attr rfl ?_
 exact jX (k:=.bytes (pB p)) g e q
theorem k7W (h:kq σ D left con) (hp:con p=some b) (q:Q (.bytes b) σ):K.C (n+2) qy [.ref D.d,.bytes (pB p)] σ Q X:=by
 refine kj zj [some (.ref D.d),some (.bytes (pB p))] rfl rfl ?_
 refine h.obj.meth rfl ?_
 refine Yc h hp ?_
 exact q
theorem kq.setLeft (h:kq σ D left con) (l:Option Int):kq (σ.upd D.dd (.dict (KD (JG l) D.fd D.bd))) D l con:=by
 have f:Fr (·=D.dd) σ (σ.upd D.dd (.dict (KD (JG l) D.fd D.bd))):=Fr.refl.set (.inl rfl)
 refine x11 h.files fun kf g kk=>?_
 obtain ⟨adr,hb⟩:=h.bel
 exact ⟨⟨KO h.obj.2.2.symm h.obj.1,kb,h.obj.2.2⟩,⟨kf,f.get (fun q=>h.ne.1 q.symm) g,kk⟩,⟨adr,hb.frame f (fun q=>h.ne.2.1 q.symm) fun a ia q=>h.sep.2.1 (q▸ia)⟩,h.ne,h.sep⟩
theorem Zo (h:kq σ D left con) (k:∀ l σ',kJ D σ D.inn σ'→kq σ' D l con→(left=none→l=none)→Q .none σ')
  (kx:∀ e σ',left≠none→kJ D σ D.inn σ'→kq σ' D left con→qO e σ'→X e σ'):K.C (n+1) KF [.ref D.d] σ Q X:=by
 refine kj Yy [some (.ref D.d)] rfl rfl ?_
 refine h.obj.attr (v:=JG left) rfl ?_
 cases left with
 | none=>exact k none σ .refl h id
 | some l =>
  refine h.obj.attr (v:=.int l) rfl ?_
  refine Ku (b:=decide (l≤0)) (fun z=>?_) fun z=>?_
  ·refine fun a d ha hd ne=>?_
   have nw:New σ ((σ.upd d (.dict [(.str Wq,V.str [])])).upd a (.inst Qv d)):=(Fr.refl.set (.inr hd)).set (.inr ha)
   exact kx a _ (fun q=>nomatch q) (.new nw) (h.n nw) ⟨d,kb⟩
  ·refine h.obj.attr (v:=.int l) rfl ?_
   refine h.obj.set rfl fun o=>?_
   exact k (some (l-1)) _ ⟨Fr.refl.set (.inl (.inl rfl)),fun z9=>.inl⟩ (h.setLeft (some (l-1))) fun q=>nomatch q
theorem qt (h:kq σ D left con) (f:k5h con p) (k:∀ σ',New σ σ'→Q .none σ'):K.C (n+3) Km [.ref D.d,.bytes (pB p)] σ Q X:=by
 refine x11 h.files fun kf g kk=>?_
 obtain ⟨adr,hb⟩:=h.bel
 refine x11 hb.top fun kv gv kkv=>?_
 refine kj JK [some (.ref D.d),some (.bytes (pB p)),none,none] rfl rfl ?_
 refine h.obj.attr rfl ?_
 refine QY (k:=.bytes (pB p)) gv ?_
 refine JH (b:=(kE kv (.bytes (pB p))).isSome) ?_ ?_
 ·refine er kkv.get ?_
  show ((adr (pB p)).map V.ref).isSome=false
  cases z:adr (pB p) with
  | none=>rfl
  | some a=>exact absurd (hb.live _ id (by refine er z ?_;exact fun q=>nomatch q)) f.1
 refine yW (k8n p) fun r σ1 n1 hr gr=>?_
 refine Kj gr (ky (by refine er (List.length_map _) ?_;have:=(k8n p).2.2.2.1;exact Nat.le_trans this (by decide))) ?_
 refine JM (g:=some r) (l:=par p) (fun (o:Option V×Option V)=>[some (.ref D.d),some (.bytes (pB p)),o.1,o.2]) (fun z9=>New σ1) (fun z9 σ' i=>i.unt id (Sto.has_of gr)) (fun y m o σ' i K k z9=>?_) (fun o σ' i=>k σ' (n1.tr i)) (_,_) .refl
 refine (h.obj.fr (n1.tr i) id id).attr rfl ?_
 refine QY (k:=.bytes y.1) ((n1.tr i).g g) ?_
 refine JH (b:=(kE kf (.bytes y.1)).isSome) (by refine er kk.get (er (f.2 y m) ?_);rfl) ?_
 exact k (_,_) _ _ rfl i
theorem Con.put_put {p:Pt} {v w:Option By}:(con.put p v).put p w=con.put p w:=funext fun q=>by
 unfold Con.put;by_cases z:q=p
 ·exact er (if_pos z) (er (if_pos z) rfl)
 ·exact er (if_neg z) (er (if_neg z) (er (if_neg z) rfl))
theorem Con.put_self:con.put p (con p)=con:=funext fun q=>by
 unfold Con.put;by_cases z:q=p
 ·exact er (if_pos z) (er z rfl)
 ·exact er (if_neg z) rfl
theorem k4l {σ:Sto} {b:By} {R:QV} (l:b.length≤1000000) (q:R (.bytes (b.take (b.length/2))) σ) :
  (b.length≤kt∧((2:Int)≠0∧Builtin.divisionGoesByPylong (b.length:Nat) 2=false∧(k2g (wM (((b.length:Nat):Int).fdiv 2)) (wd (.bytes b) none (some (((b.length:Nat):Int).fdiv 2)) σ R)))):=by
 have e:((b.length:Nat):Int).fdiv 2=(b.length/2:Nat):=by refine er (Int.fdiv_eq_ediv_of_nonneg _ (by decide)) ?_;rfl
 refine ⟨ky l,by decide,rfl,?_⟩
 refine er e ?_
 exact kK (jk (YP (Nat.le_trans (Nat.div_le_self _ _) l))) (kZ l k0z q)
theorem k3T {xs:List V} (hx:Qw.bind xs=some [some (.ref D.d),some (.bytes (pB p)),some (.bytes b),some (.int 33188)]) (h:kq σ D left con) (f:k5h con p) (l:b.length≤1000000)
  (k:∀ i l σ',kJ D σ i σ'→kq σ' (D.w i) l (con.put p (some b))→(left=none→l=none)→Q .none σ')
  (kx:∀ e i l o σ',left≠none→kJ D σ i σ'→kq σ' (D.w i) l (con.put p o)→qO e σ'→X e σ'):K.C (n+4) jy xs σ Q X:=by
 refine kj Qw [some (.ref D.d),some (.bytes (pB p)),some (.bytes b),some (.int 33188)] rfl hx ?_
 refine h.obj.meth rfl ?_
 refine qt h f fun σ1 n1=>?_
 have h1:=h.n n1
 refine h1.obj.meth rfl ?_
 refine Zo h1 (fun l2 σ2 a2 h2 e2=>?_) fun e σ' z a hx c=>kx e D.inn left (con p) σ' z ((kJ.new n1).trans a) (by refine er Con.put_self ?_;exact hx) c
 refine h2.obj.meth rfl ?_
 refine k4l l ?_
 refine zS h2 fun i3 σ3 a3 h3=>?_
 refine h3.obj.meth rfl ?_
 have a123:=((kJ.new n1).trans a2).trans a3
 refine Zo (D:=D.w i3) h3 (fun l4 σ4 a4 h4 e4=>?_) fun e σ' z a hx c=>kx e i3 l2 _ σ' (fun q=>z (e2 q)) (a123.trans a) hx c
 refine h4.obj.meth rfl ?_
 refine zS (D:=D.w i3) h4 fun i5 σ5 a5 h5=>?_
 rw[Con.put_put] at h5
 exact k i5 l4 σ5 ((a123.trans a4).trans a5) h5 fun q=>e4 (e2 q)
theorem k8F (h:kq σ D left con) (f:k5h con p) (l:b.length≤1000000)
  (k:∀ i l σ',kJ D σ i σ'→kq σ' (D.w i) l (con.put p (some b))→(left=none→l=none)→Q .none σ')
  (kx:∀ e i l o σ',left≠none→kJ D σ i σ'→kq σ' (D.w i) l (con.put p o)→qO e σ'→X e σ'):K.C (n+4) jy [.ref D.d,.bytes (pB p),.bytes b] σ Q X:=k3T rfl h f l k kx
theorem k65 (h:kq σ D left con) (f:k5h con p) (l:b.length≤1000000)
  (k:∀ i l σ',kJ D σ i σ'→kq σ' (D.w i) l (con.put p (some b))→(left=none→l=none)→Q .none σ')
  (kx:∀ e i l o σ',left≠none→kJ D σ i σ'→kq σ' (D.w i) l (con.put p o)→qO e σ'→X e σ'):K.C (n+4) jy [.ref D.d,.bytes (pB p),.bytes b,.int 33188] σ Q X:=k3T rfl h f l k kx
theorem k1n (h:kq σ D left con) (f:k5h con p) (l:b.length≤1000000) {old:By} (ho:(con p).getD []=old) (l2:old.length≤1000000)
  (k:∀ i l σ',kJ D σ i σ'→kq σ' (D.w i) l (con.put p (some (old++b)))→(left=none→l=none)→Q .none σ')
  (kx:∀ e i l o σ',left≠none→kJ D σ i σ'→kq σ' (D.w i) l (con.put p o)→(o=con p∨o=some (old++b.take (b.length/2)))→qO e σ'→X e σ'):K.C (n+4) jf [.ref D.d,.bytes (pB p),.bytes b] σ Q X:=by
 refine kj wT [some (.ref D.d),some (.bytes (pB p)),some (.bytes b),none,none] rfl rfl ?_
 refine h.obj.meth rfl ?_
 refine qt h f fun σ1 n1=>?_
 have h1:=h.n n1
 refine x11 h1.files fun kf g kk=>?_
 refine h1.obj.attr rfl ?_
 refine kK (jY g).1 ?_
 refine k2t (k:=.bytes (pB p)) (w:=fV old) g ?_ ?_
 ·refine er kk.get ?_;refine er (KY _ _) ?_;cases e:con p with
  | none=>rw[e] at ho;subst ho;rfl
  | some c=>rw[e] at ho;subst ho;rfl
 refine h1.obj.meth rfl ?_
 refine Zo h1 (fun l2' σ2 a2 h2 e2=>?_) fun e σ' z a hx c=>kx e D.inn left (con p) σ' z ((kJ.new n1).trans a) (by refine er Con.put_self ?_;exact hx) (.inl rfl) c
 refine h2.obj.meth rfl ?_
 refine k4l l ?_
 refine And.intro (Nat.le_trans (Nat.add_le_add l2 (Nat.le_trans (List.length_take_le' _ _) l)) (show 1000000+1000000≤kt by decide)) ?_
 refine zS h2 fun i3 σ3 a3 h3=>?_
 refine h3.obj.meth rfl ?_
 have a123:=((kJ.new n1).trans a2).trans a3
 refine Zo (D:=D.w i3) h3 (fun l4 σ4 a4 h4 e4=>?_) fun e σ' z a hx c=>kx e i3 l2' _ σ' (fun q=>z (e2 q)) (a123.trans a) hx (.inr rfl) c
 refine h4.obj.meth rfl ?_
 refine And.intro (Nat.le_trans (Nat.add_le_add l2 l) (show 1000000+1000000≤kt by decide)) ?_
 refine zS (D:=D.w i3) h4 fun i5 σ5 a5 h5=>?_
 rw[Con.put_put] at h5
 exact k i5 l4 σ5 ((a123.trans a4).trans a5) h5 fun q=>e4 (e2 q)
theorem k69 {q:Pt} (h:kq σ D left con) (hp:con q=some b) (ne:q≠p) (f:k5h con p)
  (k:∀ i l σ',kJ D σ i σ'→kq σ' (D.w i) l ((con.put q none).put p (some b))→(left=none→l=none)→Q .none σ')
  (kx:∀ e σ',left≠none→kJ D σ D.inn σ'→kq σ' D left con→qO e σ'→X e σ'):K.C (n+4) qB [.ref D.d,.bytes (pB q),.bytes (pB p)] σ Q X:=by
 refine kj wK [some (.ref D.d),some (.bytes (pB q)),some (.bytes (pB p)),none,none] rfl rfl ?_
 refine h.obj.meth rfl ?_
 refine Yc h hp ?_
 refine JH (b:=pB q==pB p) (beq_false_of_ne fun e=>ne (k7v e)) ?_
 refine h.obj.meth rfl ?_
 refine qt h f fun σ1 n1=>?_
 have h1:=h.n n1
 refine h1.obj.meth rfl ?_
 refine Zo h1 (fun l2 σ2 a2 h2 e2=>?_) fun e σ' z a hx c=>kx e σ' z ((kJ.new n1).trans a) hx c
 refine h2.obj.meth rfl ?_
 refine k11 h2 hp fun i3 σ3 a3 h3=>?_
 refine h3.obj.meth rfl ?_
 refine zS (D:=D.w i3) h3 fun i4 σ4 a4 h4=>?_
 exact k i4 l2 σ4 ((((kJ.new n1).trans a2).trans a3).trans a4) h4 e2
theorem k1G (h:kq σ D none con) (hp:con p=some b) (k:∀ i σ',kJ D σ i σ'→kq σ' (D.w i) none (con.put p none)→Q .none σ'):K.C (n+4) Jk [.ref D.d,.bytes (pB p)] σ Q X:=by
 refine kj Wo [some (.ref D.d),some (.bytes (pB p))] rfl rfl ?_
 refine h.obj.meth rfl ?_
 refine Yc h hp ?_
 refine h.obj.meth rfl ?_
 refine Zo h (fun l2 σ2 a2 h2 e2=>?_) fun e σ' z=>absurd rfl z
 cases e2 rfl
 refine h2.obj.meth rfl ?_
 refine k11 h2 hp fun i3 σ3 a3 h3=>?_
 exact k i3 σ3 (a2.trans a3) h3
end
end
section
variable {K:Calls}
theorem k1s {con:Con} {F m:By}:cnt con F m≠0↔∃ q,con q≠none∧(F,m)∈par q:=by
 rw[← Nat.pos_iff_ne_zero]
 refine List.countP_pos_iff.trans ⟨fun ⟨q,_,h⟩=>?_,fun ⟨q,h1,h2⟩=>⟨q,k6q q,?_⟩⟩
 ·rw[Bool.and_eq_true] at h
  exact ⟨q,(fun e=>by rw[e] at h;exact nomatch h.1),of_decide_eq_true h.2⟩
 ·rw[decide_eq_true h2];refine er (Bool.and_true _) ?_
  cases e:con q with
  | none=>exact absurd e h1
  | some b=>rfl
section
variable {σ:Sto} {D:Dk} {left:Option Int} {con:Con} {n:Nat} {p:Pt} {b:By} {Q:QV} {X:QX}
theorem k1k (k:∀ (D:Dk) σ',New σ σ'→(∀ a,D.own a→¬ σ.has a)→¬ σ.has D.d→kq σ' D none (fun z9=>none)→Q (.ref D.d) σ') :
  ∀ a d,¬ σ.has a→¬ σ.has d→a≠d→K.C (n+1) Jy [.ref a] ((σ.upd d (.dict [])).upd a (.inst ko d)) (fun r σ=>r=.none∧Q (.ref a) σ) X:=fun a d ha hd ne=>by
 obtain ⟨o,nw⟩:=Mut.start (C:=ko) ha hd ne
 refine kj Ql [some (.ref a)] rfl rfl ?_
 refine o.set rfl fun o1=>?_
 have n1:=nw.set (a:=d) (c:=.dict (Kr [] (.str [108,101,102,116]) .none)) (.inr hd)
 refine fun r hr=>?_
 have ra:=QT hr o1.1
 have rd:=QT hr o1.2.1
 have n2:=n1.new (c:=.dict []) hr
 have o2:=o1.fr (Fr.refl.new (c:=.dict []) hr:New _ _) id id
 refine o2.set rfl fun o3=>?_
 have n3:=n2.set (a:=d) (c:=.dict (Kr (Kr [] (.str [108,101,102,116]) .none) (.str [102,105,108,101,115]) (.ref r))) (.inr hd)
 refine fun s hs=>?_
 have sa:=QT hs o3.1
 have sd:=QT hs o3.2.1
 have sr:=QT hs (KO (c':=.dict (Kr (Kr [] (.str [108,101,102,116]) .none) (.str [102,105,108,101,115]) (.ref r))) rd.symm kb)
 have n4:=n3.new (c:=.dict []) hs
 have o4:=o3.fr (Fr.refl.new (c:=.dict []) hs:New _ _) id id
 refine o4.set rfl fun o5=>?_
 have n5:=n4.set (a:=d) (c:=.dict (KD .none r s)) (.inr hd)
 have hr0:=n1.nhas hr
 have hs0:=n3.nhas hs
 refine And.intro rfl (k ⟨a,d,r,s,fun _=>False⟩ _ n5 (fun b e=>?_) ha ⟨o5,⟨[],?_,KV.nil.of fun j=>?_⟩,⟨fun z9=>none,⟨[],?_,KV.nil.of fun j=>?_⟩,fun z9 z9 e=>(nomatch e),fun F z9 m=>?_,fun z9 z9 e=>absurd rfl e,fun z9 z9 z9 e=>(nomatch e),id,fun z9 e=>e.elim⟩,⟨rd.symm,sd.symm,sr.symm,ra.symm,sa.symm⟩,id,id,id⟩)
 ·rcases e with e | e | e | e
  ·exact e▸hd
  ·exact e▸hr0
  ·exact e▸hs0
  ·exact e.elim
 ·exact KO rd.symm (KO sr (KO rd.symm kb))
 ·show none=QF _ j
  unfold QF;split <;> rfl
 ·exact KO sd.symm kb
 ·cases j <;> rfl
 ·exact Classical.byContradiction fun z=>by
   refine x11 (k1s.1 z) fun q h z9=>?_
   exact h rfl
noncomputable def K1o (D2:Dk) (σ1:Sto) (con:Con) (dn:List Key) (σ':Sto):Prop:=∀ G:Prop,(∀ i,kJ D2 σ1 i σ'→kq σ' (D2.w i) none (fun p=>if Key.bytes (pB p)∈dn then con p else none)→G)→G
theorem k7H (h:kq σ D left con) (k:∀ (D2:Dk) σ',New σ σ'→(∀ a,D2.own a→¬ σ.has a)→¬ σ.has D2.d→kq σ' D2 none con→Q (.ref D2.d) σ'):K.C (n+4) KS [.ref D.d] σ Q X:=by
 refine kj Yv [some (.ref D.d),none,none,none,none] rfl rfl ?_
 refine k1k fun D2 σ1 n1 ho hd h2=>?_
 have h1:=h.n n1
 refine x11 h1.files fun kf g kk=>?_
 refine x14 kk.keys fun ks e nd mem len z9=>?_
 refine h1.obj.attr rfl ?_
 refine k0q g (ky (Nat.le_trans kk.len (by decide))) ?_
 refine er e ?_
 have own:∀ a,D.own a→¬ D2.own a:=fun a x y=>ho a y (h.has x)
 refine wq (g:=some D.fd) (fun (_:List Key) (o:Option V×Option V×Option V)=>[some (.ref D.d),some (.ref D2.d),o.1,o.2.1,o.2.2])
  (K1o D2 σ1 con) (fun dn σ' i=>i _ fun z9 af z9=>af.1.unt (own _ (.inr (.inl rfl))) (h1.has (.inr (.inl rfl)))) (fun dn y q e1 o σ' i KK k z9=>i _ fun i af hi=>?_) (fun o σ' i=>i _ fun i af hi=>?_) (_,_,_) fun G w=>w D2.inn .refl h2
 ·have my:y∈ks:=by refine er e1 ?_;exact List.mem_append_right _ List.mem_cons_self
  have fy:=(mem y).1 my
  have hp:∃ p,y=.bytes (pB p):=Classical.byContradiction fun z=>fy (Wj fun p q=>z ⟨p,q⟩)
  obtain ⟨p,rfl⟩:=hp
  rw[KY] at fy
  cases ec:con p with
  | none=>rw[ec] at fy;exact absurd rfl fy
  | some b =>
   have hD:=h1.frame af.1 own fun y=>ho _ y (Sto.has_of h.obj.1)
   refine x11 hD.files fun kf' g' kk'=>?_
   refine hD.obj.attr rfl ?_
   refine jX (k:=.bytes (pB p)) (v:=fV b) g' (by rw[kk'.get,KY,ec];rfl) ?_
   refine hi.obj.meth rfl ?_
   refine zS (D:=D2.w i) hi fun j σ'' a' h'=>?_
   refine k (_,_,_) _ _ rfl fun G w=>w j (af.trans a') ?_
   have ee:Con.put (fun p=>if Key.bytes (pB p)∈dn then con p else none) p (some b)=fun p'=>if Key.bytes (pB p')∈dn++[Key.bytes (pB p)] then con p' else none:=funext fun p'=>by
    unfold Con.put
    by_cases z:p'=p
    ·exact er (if_pos z) (er z (er (if_pos (List.mem_append_right _ List.mem_cons_self)) (er ec rfl)))
    ·refine er (if_neg z) ?_
     show (if Key.bytes (pB p')∈dn then con p' else none)=_
     by_cases y:Key.bytes (pB p')∈dn
     ·exact er (if_pos y) (er (if_pos (List.mem_append_left _ y)) rfl)
     ·exact er (if_neg y) (er (if_neg fun m=>(List.mem_append.1 m).elim y fun m=>z (k7v (Key.bytes.inj (List.mem_singleton.1 m)))) rfl)
   refine er (Eq.symm ee) ?_;exact h'
 ·have ee:(fun p=>if Key.bytes (pB p)∈ks then con p else none)=con:=funext fun p=>by
   by_cases z:Key.bytes (pB p)∈ks
   ·rw[if_pos z]
   ·rw[if_neg z]
    cases ec:con p with
    | none=>rfl
    | some b=>exact absurd ((mem _).2 (by rw[KY,ec];exact fun q=>nomatch q)) z
  rw[ee] at hi
  have nw:New σ σ':=n1.trans af.1 fun a y=>.inr (ho a y)
  exact k (D2.w i) σ' nw (fun a y=>by
   rcases y with y | y | y | y
   ·exact ho a (.inl y)
   ·exact ho a (.inr (.inl y))
   ·exact ho a (.inr (.inr (.inl y)))
   ·exact (af.2 a y).elim (fun y=>ho a (.inr (.inr (.inr y)))) n1.nhas) hd hi
theorem K05 {kv:List (V×V)} {it:List V} {a:Addr} {R:Src→Prop} (h:σ.get a=some (.dict kv)) (l:kv.length≤kt) (e:kv.map (·.1)=it) (q:R ⟨it,some a⟩):kT (ZR (.ref a) σ) R:=k0q h l (e▸q)
noncomputable def Way (con:Con) (b:By):Prop:=con (2,false)=some b∧con (2,true)=none∧con (1,false)=none
theorem k77:∀ (i:Fin 4) (l:Bool),∀ x∈par (i,l),x.1=pB (1,false)→i=2∧(l=false→x.2=[98]):=by decide +kernel
theorem Uc {con:Con} {b:By} (h:Way con b) (m:By):cnt con (pB (1,false)) m≠0↔m=[98]:=by
 rw[k1s]
 refine ⟨fun ⟨q,h1,h2⟩=>?_,fun e=>⟨(2,false),(by rw[h.1];exact fun q=>(nomatch q)),e▸(by decide +kernel:(pB (1,false),[98])∈par (2,false))⟩⟩
 obtain ⟨i,l⟩:=q
 obtain ⟨e1,e2⟩:=k77 i l _ h2 rfl
 subst e1
 cases l with
 | false=>exact e2 rfl
 | true=>exact absurd h.2.1 h1
theorem K0P (h:kq σ D left con) (w:Way con b) (k:∀ r σ',New σ σ'→¬ σ.has r→σ'.get r=some (.list [.bytes (pB (2,false))])→Q (.ref r) σ'):K.C (n+2) wi [.ref D.d,.bytes (pB (1,false))] σ Q X:=by
 refine bc fun zg=>?_
 refine x11 h.files fun kf g kk=>?_
 obtain ⟨adr,hb⟩:=h.bel
 refine x11 hb.top fun kv gv kkv=>?_
 refine zg ?_;clear zg
 refine kj YS [some (.ref D.d),some (.bytes (pB (1,false))),none,none,none,none,none] rfl rfl ?_
 refine fun r1 h1=>?_
 refine fun r2 h2=>?_
 have n2:New σ ((σ.upd r1 (.list [])).upd r2 (.list [.bytes (pB (1,false))])):=(Fr.refl.new h1).new h2
 have g1:((σ.upd r1 (.list [])).upd r2 (.list [.bytes (pB (1,false))])).get r1=some (.list []):=qv h2 kb
 have g2:((σ.upd r1 (.list [])).upd r2 (.list [.bytes (pB (1,false))])).get r2=some (.list [.bytes (pB (1,false))]):=kb
 have h2':¬ σ.has r2:=fun q=>h2 (JW q)
 have ne:r2≠r1:=QT h2 kb
 generalize (σ.upd r1 (.list [])).upd r2 (.list [.bytes (pB (1,false))])=σ2 at n2 g1 g2 ⊢
 refine Exists.intro 2 ?_
 refine fun r3 h3=>?_
 have n3:New σ2 (σ2.upd r3 (.list [])):=Fr.refl.new h3
 refine QJ (n3.g g2) kb ?_
 refine kK (Ja (n3.g g2)).2 ?_
 refine k7u (xs:=[]) (n3.g g2) (by decide) ?_
 have f4:Fr (·=r2) σ2 ((σ2.upd r3 (.list [])).upd r2 (.list [])):=n3.fr.set (.inl rfl)
 have f04:New σ ((σ2.upd r3 (.list [])).upd r2 (.list [])):=n2.trans f4 fun a e=>.inr (e▸h2')
 have g14:=f4.get (fun q=>ne q.symm) g1
 have g24:((σ2.upd r3 (.list [])).upd r2 (.list [])).get r2=some (.list []):=kb
 generalize (σ2.upd r3 (.list [])).upd r2 (.list [])=σ4 at f4 f04 g14 g24 ⊢
 refine (h.obj.fr f04 id id).attr rfl ?_
 refine kK (jY (f04.g gv)).1 ?_
 refine fun r5 h5=>?_
 have n5:New σ4 (σ4.upd r5 (.dict [])):=Fr.refl.new h5
 have f05:=f04.tr n5
 have g15:=n5.g g14
 have g25:=n5.g g24
 have gv5:=f05.g gv
 generalize σ4.upd r5 (.dict [])=σ5 at n5 f05 g15 g25 gv5 ⊢
 have wn:=Uc w
 cases ea:adr (pB (1,false)) with
 | none=>exact absurd (hb.zero _ ea [98]) ((wn _).2 rfl)
 | some a =>
  refine bc fun zg=>?_
  obtain ⟨ia,zz0⟩:=hb.inner _ _ ea;refine x11 zz0 fun dn gd kd=>?_
  refine zg ?_;clear zg
  refine k2t (k:=.bytes (pB (1,false))) (w:=.ref a) gv5 (by rw[kkv.get];show ((adr (pB (1,false))).map V.ref).getD _=_;rw[ea];rfl) ?_
  have hk:dn.map (·.1)=[V.bytes [98]]:=by
   refine x13 kd.keys fun ks e nd mem z9=>?_
   have m1:∀ k,k∈ks↔k=.bytes [98]:=fun k=>by
    rw[mem]
    cases k with
    | str s=>exact ⟨fun q=>absurd rfl q,fun q=>nomatch q⟩
    | bytes m =>
     show (if cnt con (pB (1,false)) m=0 then none else some (V.int (cnt con (pB (1,false)) m:Nat)))≠none↔_
     by_cases z:cnt con (pB (1,false)) m=0
     ·rw[if_pos z];exact ⟨fun q=>absurd rfl q,fun q=>absurd z ((wn m).2 (Key.bytes.inj q))⟩
     ·refine er (if_neg z) ?_;exact ⟨fun z9=>congrArg Key.bytes ((wn m).1 z),fun z9 q=>nomatch q⟩
   refine er e ?_
   match ks,nd,m1 with
   | [],_,m1=>exact absurd ((m1 _).2 rfl) (fun q=>nomatch q)
   | [x],_,m1=>refine er ((m1 x).1 List.mem_cons_self) ?_;rfl
   | x::y::r,nd,m1 =>
    have a1:=(m1 x).1 List.mem_cons_self
    have a2:=(m1 y).1 (List.mem_cons_of_mem _ List.mem_cons_self)
    exact absurd (by refine er a1 (er a2 ?_);exact List.mem_cons_self) (List.nodup_cons.1 nd).1
  refine K05 (f05.g gd) (ky (Nat.le_trans kd.len (Nat.le_trans Un.2 (by decide)))) hk ?_
  refine And.intro ((Fr.refl (W:=fun _=>False)).unt id (f05.pre_has (Sto.has_of gd))) ?_
  refine k7Y (by decide +kernel) (by decide) fun σ6 n6=>?_
  refine (h.obj.fr (f05.tr n6) id id).attr rfl ?_
  have eb:k1b (pB (1,false)) [98]=pB (2,false):=by decide +kernel
  refine QY (k:=.bytes (k1b (pB (1,false)) [98])) ((f05.tr n6).g g) ?_
  rw[eb]
  refine k07 (b:=(kE kf (.bytes (pB (2,false)))).isSome) (by rw[kk.get,KY,w.1];rfl) ?_
  refine kK (Ja (n6.g g15)).1 ?_
  refine jn (n6.g g15) (by decide) ?_
  have f7:Fr (·=r1) σ5 (σ6.upd r1 (.list [.bytes (pB (2,false))])):=n6.fr.set (.inl rfl)
  have f07:New σ (σ6.upd r1 (.list [.bytes (pB (2,false))])):=f05.trans f7 fun a e=>.inr (e▸h1)
  have g17:(σ6.upd r1 (.list [.bytes (pB (2,false))])).get r1=some (.list [.bytes (pB (2,false))]):=kb
  have g27:=f7.get (fun q=>ne q) g25
  refine And.intro (f7.unt (fun q=>h1 (q▸Sto.has_of gd)) (f05.pre_has (Sto.has_of gd))) ?_
  refine fun r8 h8=>?_
  have n8:New _ (Sto.upd (σ6.upd r1 (.list [.bytes (pB (2,false))])) r8 (.list [])):=Fr.refl.new h8
  refine QJ (n8.g g27) kb ?_
  refine k42 (n8.g g17) (by decide) fun r9 h9=>?_
  exact k r9 _ ((f07.tr n8).new h9) ((f07.tr n8).nhas h9) kb
theorem zh (h:kq σ D none con) (w:Way con b) (k:∀ i σ',kJ D σ i σ'→kq σ' (D.w i) none (con.put (2,false) none)→Q .none σ'):K.C (n+5) jh [.ref D.d,.bytes (pB (1,false))] σ Q X:=by
 refine x11 h.files fun kf g kk=>?_
 refine kj Jh [some (.ref D.d),some (.bytes (pB (1,false))),none] rfl rfl ?_
 refine h.obj.attr rfl ?_
 refine QY (k:=.bytes (pB (1,false))) g ?_
 refine JH (b:=(kE kf (.bytes (pB (1,false)))).isSome) (by refine er kk.get ?_;rw[KY,w.2.2];rfl) ?_
 refine h.obj.meth rfl ?_
 refine K0P h w fun r σ1 n1 hr gr=>?_
 have h1:=h.n n1
 refine Kj gr (by decide) ?_
 refine And.intro ((Fr.refl (W:=fun _=>False)).unt id (Sto.has_of gr)) ?_
 refine h1.obj.meth rfl ?_
 refine k1G h1 w.1 fun i σ2 a2 h2=>?_
 refine And.intro (a2.1.unt (fun q=>hr (h.has q)) (Sto.has_of gr)) ?_
 exact k i σ2 ((kJ.new n1).trans a2) h2
end
end
section
variable {K:Calls}
theorem ZM:∀ (i:Fin 4) (l:Bool),∀ x∈par (i,l),∀ (j:Fin 4) (m:Bool),x.1=pB (j,m)→i=2∧j=1∧m=false:=by decide +kernel
theorem Yu {con:Con} {p:Pt} (h1:p.1=2→con (1,false)=none) (h2:p=(1,false)→∀ l,con (2,l)=none):k5h con p:=by
 refine ⟨fun ⟨m,h⟩=>?_,fun x mx=>?_⟩
 ·refine x11 (k1s.1 h) fun q hq hm=>?_
  refine x02 (ZM q.1 q.2 _ hm p.1 p.2 rfl) fun e1 e2 e3=>?_
  obtain ⟨i,l⟩:=q
  subst e1
  exact hq (h2 (Prod.ext e2 e3) l)
 ·by_cases z:∃ q,x.1=pB q
  ·obtain ⟨q,e⟩:=z
   refine x02 (ZM p.1 p.2 x mx q.1 q.2 e) fun e1 e2 e3=>?_
   refine er e ?_;refine er (KY _ _) ?_;rw[show q=(1,false) from Prod.ext e2 e3,h1 e1];rfl
  ·exact Wj fun q e=>z ⟨q,Key.bytes.inj e⟩
theorem k7w {con:Con} {p:Pt} (h:K08 con (pB p)):p=(1,false)∧∃ l,con (2,l)≠none:=by
 refine bc fun zg=>?_
 obtain ⟨m,h⟩:=h
 refine x11 (k1s.1 h) fun q hq hm=>?_
 refine x02 (ZM q.1 q.2 _ hm p.1 p.2 rfl) fun e1 e2 e3=>?_
 obtain ⟨i,l⟩:=q
 subst e1
 refine zg ?_;clear zg
 exact ⟨Prod.ext e2 e3,l,hq⟩
theorem k5a:∀ i:Fin 4,pB (i,false)++[46,108,111,99,107]=pB (i,true):=by decide +kernel
theorem K1j (p:Pt):(pB p).length≤1000:=(k8n p).1
theorem k67 {i j:Fin 4}:((i,false):Pt)≠(j,true):=fun q=>nomatch (Prod.mk.inj q).2
theorem ua {i j:Fin 4}:((i,true):Pt)≠(j,false):=fun q=>nomatch (Prod.mk.inj q).2
noncomputable abbrev yi (d:Addr) (i:Fin 4) (h:Bool):List (V×V):=[(k7m,.ref d),(K10,.bytes (pB (i,false))),(k2E,.bytes (pB (i,true))),(k6t,.bool h)]
section
variable {σ:Sto} {D:Dk} {left:Option Int} {con:Con} {n:Nat} {p:Pt} {b:By} {Q:QV} {X:QX} {i:Fin 4}
theorem k6T (k:∀ a d σ',New σ σ'→¬ σ.has a→¬ σ.has d→Mut Ke σ' a d (yi D.d i false)→Q (.ref a) σ'):∀ a d,¬ σ.has a→¬ σ.has d→a≠d →
  K.C (n+1) JB [.ref a,.ref D.d,.bytes (pB (i,false))] ((σ.upd d (.dict [])).upd a (.inst Ke d)) (fun r σ=>r=.none∧Q (.ref a) σ) X:=fun a d ha hd ne=>by
 obtain ⟨o,nw⟩:=Mut.start (C:=Ke) ha hd ne
 refine kj Qq [some (.ref a),some (.ref D.d),some (.bytes (pB (i,false)))] rfl rfl ?_
 refine o.set rfl fun o=>?_
 refine o.set rfl fun o=>?_
 refine And.intro (Nat.le_trans (Nat.add_le_add (K1j _) (Nat.le_refl 5)) (by decide)) ?_
 refine er (k5a _) ?_
 refine o.set rfl fun o=>?_
 refine o.set rfl fun o=>?_
 exact ⟨rfl,k a d _ ((((nw.set (.inr hd)).set (.inr hd)).set (.inr hd)).set (.inr hd)) ha hd o⟩
theorem yd {a d:Addr} {x:Addr} (o:Mut Ke σ a d (yi x i true)) (q:Q .none σ):K.C (n+1) je [.ref a] σ Q X:=by
 refine kj qa [some (.ref a)] rfl rfl ?_
 exact o.attr rfl q
theorem kJ.set {j:Addr→Prop} {σ':Sto} {r:Addr} {c:yO} (h:kJ D σ j σ') (hr:¬ σ.has r):kJ D σ j (σ'.upd r c):=⟨h.1.set (.inr hr),h.2⟩
theorem kJ.not {j:Addr→Prop} {σ':Sto} {r:Addr} (h:kJ D σ j σ') (hr:¬ D.own r) (hh:σ.has r):¬ (D.w j).own r:=fun e=>by
 rcases e with e | e | e | e
 ·exact hr (.inl e)
 ·exact hr (.inr (.inl e))
 ·exact hr (.inr (.inr (.inl e)))
 ·exact (h.2 r e).elim (fun e=>hr (.inr (.inr (.inr e)))) fun q=>q hh
noncomputable abbrev wj (σ:Sto) (D:Dk) (a:Addr):Prop:=k1h σ a (.ref D.d) (.bytes ZD) (.int 4)
noncomputable abbrev k0E (s:Tx):By:=ZD++[47]++byt s
theorem ZC (i:Fin 4):k0E (nmT i)=pB (i,false):=(List.append_nil _).symm
theorem k3B:∀ i:Fin 4,(nmT i).length≤1000∧∀ c∈nmT i,c<256:=by decide +kernel
theorem Ue {a:Addr} {s:Tx} (r:wj σ D a) (l:s.length≤1000∧∀ c∈s,c<256) (k:∀ σ',New σ σ'→Q (.bytes (k0E s)) σ'):K.C (n+2) kA [.ref a,.str s] σ Q X:=by
 refine kj qR [some (.ref a),some (.str s)] rfl rfl ?_
 refine r.attr rfl ?_
 refine r.attr rfl ?_
 refine And.intro (by decide) ?_
 refine qL (Nat.le_trans l.1 (by decide)) l.2 fun σ1 n1=>?_
 exact And.intro (Nat.le_trans (Nat.add_le_add (Nat.le_refl 10) (by refine er (List.length_map _) ?_;exact l.1)) (by decide)) (k σ1 n1)
theorem Yr {a:Addr} {i:Fin 4} (r:wj σ D a) (k:∀ σ',New σ σ'→Q (.bytes (pB (i,false))) σ'):K.C (n+2) kA [.ref a,.str (nmT i)] σ Q X :=
 Ue r (k3B i) fun σ' h=>by refine er (ZC _) ?_;exact k σ' h
theorem Uz {a:Addr} (r:wj σ D a) (h:kq σ D left con) (hl:con (i,true)=none) (w1:i=2→con (1,false)=none) (w2:i=1→∀ l,con (2,l)=none) (l:b.length≤1000000)
  (k:∀ j l σ',kJ D σ j σ'→kq σ' (D.w j) l (con.put (i,false) (some b))→(left=none→l=none)→Q .none σ')
  (kx:∀ e j l o σ',left≠none→kJ D σ j σ'→kq σ' (D.w j) l (con.put (i,true) o)→qO e σ'→X e σ'):K.C (n+6) jp [.ref a,.str (nmT i),.bytes b] σ Q X:=by
 refine kj Qc [some (.ref a),some (.str (nmT i)),some (.bytes b),none] rfl rfl ?_
 refine r.attr rfl ?_
 refine r.meth rfl ?_
 refine Yr r fun σ1 n1=>?_
 refine k6T fun m d σ2 n2 hm hd o2=>?_
 have n02:=n1.tr n2
 have h2:=h.n n02
 have hm0:=n1.nhas hm
 have hd0:=n1.nhas hd
 have sm:¬ D.own m:=fun e=>hm0 (h.has e)
 have sd:¬ D.own d:=fun e=>hd0 (h.has e)
 have fl:k5h con (i,true):=Yu w1 fun e=>absurd e ua
 refine o2.meth rfl ?_
 refine kj zn [some (.ref m)] rfl rfl ?_
 refine o2.attr rfl ?_
 refine h2.obj.meth rfl ?_
 refine o2.attr rfl ?_
 refine K0s h2 ?_
 refine JH (b:=(QF con (.bytes (pB (i,true)))).isSome) (by rw[KY,hl];rfl) ?_
 refine o2.attr rfl ?_
 refine o2.attr rfl ?_
 refine h2.obj.meth rfl ?_
 refine o2.attr rfl ?_
 refine k8F h2 fl (by decide) (fun j3 l3 σ3 a3 h3 e3=>?_) fun e j l o σ' z a' h' c=>kx e j l o σ' z ((kJ.new n02).trans a') h' c
 have sm3:=a3.not sm (Sto.has_of o2.1)
 have sd3:=a3.not sd (Sto.has_of o2.2.1)
 have o3:=o2.fr a3.1 sm sd
 refine o3.set rfl fun o4=>?_
 have f4:Fr (·=d) σ3 (σ3.upd d (.dict (yi D.d i true))):=Fr.refl.set (.inl rfl)
 have h4:kq (σ3.upd d (.dict (yi D.d i true))) (D.w j3) l3 _:=h3.frame f4 (fun x e q=>sd3 (q▸e)) fun q=>hd0 (q▸Sto.has_of h.obj.1)
 have a4:kJ D σ j3 (σ3.upd d (.dict (yi D.d i true))):=((kJ.new n02).trans a3).set hd0
 have o4':Mut Ke (σ3.upd d (.dict (yi D.d i true))) m d (yi D.d i true):=o4
 refine o4'.meth rfl ?_
 refine kj zO [some (.ref m),some (.bytes b),some (.int 33188)] rfl rfl ?_
 refine o4'.meth rfl ?_
 refine yd o4' ?_
 refine o4'.attr rfl ?_
 refine h4.obj.meth rfl ?_
 refine o4'.attr rfl ?_
 have fl2:∀ o,k5h (con.put (i,true) o) (i,true):=fun o=>Yu (fun e=>by unfold Con.put;rw[if_neg k67];exact w1 e) fun e=>absurd e ua
 refine k65 (D:=D.w j3) h4 (fl2 _) l (fun j5 l5 σ5 a5 h5 e5=>?_) fun e j l o σ' z a' h' c=>kx e j l o σ' (fun q=>z (e3 q)) (a4.trans a') (by rw[Con.put_put] at h';exact h') c
 rw[Con.put_put] at h5
 have o5:=o4'.fr a5.1 sm3 sd3
 have sm5:=a5.not sm3 (Sto.has_of o4'.1)
 have sd5:=a5.not sd3 (Sto.has_of o4'.2.1)
 refine o5.meth rfl ?_
 refine kj wQ [some (.ref m)] rfl rfl ?_
 refine o5.meth rfl ?_
 refine yd o5 ?_
 refine o5.attr rfl ?_
 refine h5.obj.meth rfl ?_
 refine o5.attr rfl ?_
 refine o5.attr rfl ?_
 have fp:k5h (con.put (i,true) (some b)) (i,false):=Yu (fun e=>by unfold Con.put;refine er (if_neg k67) ?_;exact w1 e) fun e l=>by
  have ei:i=1:=(Prod.mk.inj e).1
  unfold Con.put;refine er (if_neg fun q=>absurd ((Prod.mk.inj q).1.trans ei) (show ¬ (2:Fin 4)=1 by decide)) ?_;exact w2 ei l
 refine k69 (D:=D.w j5) (b:=b) (p:=(i,false)) (q:=(i,true)) h5 (if_pos rfl) ua fp (fun j6 l6 σ6 a6 h6 e6=>?_) fun e σ' z a' h' c=>kx e j5 l5 _ σ' (fun q=>z (e5 (e3 q))) ((a4.trans a5).trans a') h' c
 have o6:=o5.fr a6.1 sm5 sd5
 refine o6.set rfl fun o7=>?_
 have ec:((con.put (i,true) (some b)).put (i,true) none).put (i,false) (some b)=con.put (i,false) (some b):=by
  exact er Con.put_put (er (Eq.symm hl) (er Con.put_self rfl))
 rw[ec] at h6
 have f7:Fr (·=d) σ6 (σ6.upd d (.dict (yi D.d i false))):=Fr.refl.set (.inl rfl)
 have sd6:=a6.not sd5 (Sto.has_of o5.2.1)
 exact k j6 l6 _ (((a4.trans a5).trans a6).set hd0) (h6.frame f7 (fun x e q=>sd6 (q▸e)) fun q=>hd0 (q▸Sto.has_of h.obj.1)) fun q=>e6 (e5 (e3 q))
end
end
section
variable {K:Calls}
theorem k5t:∀ o n:Fin 6,byt (wf (jj o)++[32]++wf (jj n)++[32])=ZV o n∧(wf (jj o)).length=8∧∀ c∈wf (jj o),c<256:=by decide +kernel
theorem k9n:∀ w:Fin 40,byt (Kh (1000+w.val:Nat))=k1L w∧(Kh (1000+w.val:Nat)).length≤1000∧∀ c∈Kh (1000+w.val:Nat),c<256:=by decide +kernel
section
variable {σ:Sto} {D:Dk} {left:Option Int} {con:Con} {n:Nat} {p:Pt} {b:By} {Q:QV} {X:QX} {i:Fin 4} {a:Addr}
theorem k3g {w:Fin 40} {z:Fin 3} (o:uR σ a w z) (k:∀ σ',New σ σ'→Q (.bytes (jP w z)) σ'):K.C (n+2) JC [.ref a] σ Q X:=by
 refine x02 (k9n w) fun d1 d2 d3=>?_
 have dl:(byt (Kh (1000+w.val:Nat))).length=4:=by refine er d1 ?_;rfl
 have zl:=(WA w z).2.2.1
 refine kj Qi [some (.ref a)] rfl rfl ?_
 refine o.attr rfl ?_
 refine And.intro (by decide) ?_
 refine o.attr rfl ?_
 refine And.intro (by decide) ?_
 refine And.intro (by decide) ?_
 refine o.attr rfl ?_
 refine And.intro (by have:=w.isLt;omega) ?_
 refine qL (Nat.le_trans d2 (by decide)) d3 fun σ1 n1=>?_
 refine And.intro (by refine er dl ?_;decide) ?_
 refine And.intro (by refine er List.length_append ?_;refine er dl ?_;decide) ?_
 refine (o.n n1).attr rfl ?_
 refine And.intro (by refine er List.length_append ?_;refine er List.length_append ?_;refine er dl ?_;refine er zl ?_;decide) ?_
 have e:[65,32,66]++[32,60]++[97,64,98]++[62,32]++byt (Kh (1000+w.val:Nat))++[32]++Ju z=jP w z:=by
  refine er d1 ?_;refine er (List.append_assoc _ _ _) ?_;refine er (List.append_assoc _ _ _) ?_;rfl
 have t:=k σ1 n1
 rw[← e] at t;exact t
theorem Zj {r:Rec} (hm:Ji r.m) (o:Kp σ a r) (k:∀ σ',New σ σ'→Q (.bytes (yJ r)) σ'):K.C (n+3) Kd [.ref a] σ Q X:=by
 refine x11 o ?_;clear o;intro pa o1 o2
 refine x02 (k5t r.o r.n) fun h1 h2 h3=>?_
 refine x02 (k5t r.n r.n) fun z9 h4 h5=>?_
 have hl:=(JD r.o r.n).1
 have pl:=(wC r.w r.z).1
 refine kj qm [some (.ref a),none] rfl rfl ?_
 refine o1.attr rfl ?_
 refine k1e (b:=jj r.o) (by refine er ((JD r.o r.n).2.2.2.2.2.2) ?_;decide) fun σ1 n1=>?_
 refine And.intro (by refine er h2 ?_;decide) ?_
 refine (o1.n n1).attr rfl ?_
 refine k1e (b:=jj r.n) (by refine er ((JD r.n r.n).2.2.2.2.2.2) ?_;decide) fun σ2 n2=>?_
 refine And.intro (by refine er List.length_append (er h2 (er h4 ?_));decide) ?_
 refine And.intro (by refine er List.length_append (er List.length_append (er h2 (er h4 ?_)));decide) ?_
 refine qL (by refine er List.length_append (er List.length_append (er List.length_append (er h2 (er h4 ?_))));decide) (fun c m=>?_) fun σ3 n3=>?_
 ·rcases List.mem_append.1 m with m | m
  ·rcases List.mem_append.1 m with m | m
   ·rcases List.mem_append.1 m with m | m
    ·exact h3 c m
    ·refine er (List.mem_singleton.1 m) ?_;decide
   ·exact h5 c m
  ·refine er (List.mem_singleton.1 m) ?_;decide
 have n03:=(n1.tr n2).tr n3
 refine (o1.n n03).attr rfl ?_
 refine (o2.n n03).meth rfl ?_
 refine k3g (o2.n n03) fun σ4 n4=>?_
 have n04:=n03.tr n4
 refine er h1 ?_
 refine And.intro (by refine er hl ?_;rw[pl];decide) ?_
 refine (o1.n n04).attr rfl ?_
 have fin:∀ σ',New σ4 σ'→Q (.bytes (ZV r.o r.n++jP r.w r.z++ZE r.m++[10])) σ':=fun σ' n'=>by
  have t:=k σ' (n04.tr n')
  unfold yJ yj at t;rw[List.append_assoc (ZV _ _)];exact t
 cases em:r.m with
 | nil =>
  rw[em] at fin
  refine And.intro rfl ?_
  refine And.intro (by refine er List.length_append (er hl (er pl ?_));decide) ?_
  exact And.intro (by refine er List.length_append ?_;refine er List.length_append ?_;refine er hl ?_;refine er pl ?_;decide) (fin σ4 .refl)
 | cons c t =>
  have hm':=hm;rw[em] at hm'
  have lt:(byt (c::t)).length≤100:=by refine er (List.length_map _) ?_;exact hm'.1
  refine And.intro rfl ?_
  refine (o1.n n04).attr (v:=.str r.m) rfl ?_
  refine er em ?_
  refine And.intro (Nat.le_trans (Nat.add_le_add (Nat.le_refl 1) hm'.1) (by decide)) ?_
  refine qL (s:=[9]++(c::t)) (Nat.le_trans (by refine er List.length_append ?_;exact Nat.add_le_add (Nat.le_refl 1) hm'.1) (show 1+100≤_ by decide)) (fun x m=>?_) fun σ5 n5=>?_
  ·rcases List.mem_append.1 m with m | m
   ·refine er (List.mem_singleton.1 m) ?_;decide
   ·exact (hm'.2 x m).2
  rw[em] at fin
  refine And.intro (ky (by refine er List.length_append (er hl (er pl ?_));show 18+20+((byt (c::t)).length+1)≤_;lia)) ?_
  exact And.intro (ky (by refine er List.length_append (er List.length_append (er hl (er pl ?_)));show 18+20+((byt (c::t)).length+1)+1≤_;lia)) (fin σ5 n5)
theorem k7M {s:Tx} {v:Bool} (r:wj σ D a) (h:kq σ D left con) (l:s.length≤1000∧∀ c∈s,c<256) (hv:(QF con (.bytes (k0E s))).isSome=v) (hf:v=true→¬ K08 con (k0E s))
  (k:∀ σ',New σ σ'→Q (.bool v) σ'):K.C (n+3) jA [.ref a,.str s] σ Q X:=by
 refine kj yc [some (.ref a),some (.str s),none] rfl rfl ?_
 refine r.meth rfl ?_
 refine Ue r l fun σ1 n1=>?_
 refine (r.n n1).attr rfl ?_
 have h1:=h.n n1
 refine h1.obj.meth rfl ?_
 refine K0s h1 ?_
 refine er hv ?_
 cases v with
 | false=>exact k σ1 n1
 | true =>
  refine (r.n n1).attr rfl ?_
  refine h1.obj.meth rfl ?_
  exact wr (v:=false) h1 (fun q=>nomatch q) ⟨fun q=>(nomatch q),fun q=>absurd q (hf rfl)⟩ (k σ1 n1)
theorem k4f (r:wj σ D a) (h:kq σ D left con) (w:con (i,false)≠none→i=1→∀ l,con (2,l)=none) (k:∀ σ',New σ σ'→Q (.bool (con (i,false)).isSome) σ'):K.C (n+3) jA [.ref a,.str (nmT i)] σ Q X:=by
 refine k7M r h (k3B i) (by refine er (ZC _) ?_;refine er (KY _ _) ?_;rw[Option.isSome_map]) (fun e q=>?_) k
 rw[ZC] at q
 obtain ⟨e1,l,e2⟩:=k7w q
 exact e2 (w (fun z=>by rw[z] at e;exact nomatch e) (Prod.mk.inj e1).1 l)
theorem WJ:∀ {t:By},10∉t→jz 10 t=none
 | [],_=>rfl
 | d::r,h=>by
  have ih:=WJ (t:=r) fun m=>h (List.mem_cons_of_mem _ m)
  show (match jz 10 r with | some k=>some (k+1) | none=>if d=10 then some 0 else none)=none
  refine er ih ?_;exact if_neg fun e:d=10=>h (e▸List.mem_cons_self)
theorem k1x {t:By} (h:10∉t):∀ {f:By},jz 10 (f++10::t)=some f.length
 | []=>by
  show (match jz 10 t with | some k=>some (k+1) | none=>if (10:UInt8)=10 then some 0 else none)=_
  refine er (WJ h) ?_;rfl
 | d::r=>by
  show (match jz 10 (r++10::t) with | some k=>some (k+1) | none=>_)=_
  refine er (k1x h) ?_;rfl
noncomputable def k9N (f:By):Prop:=f=[]∨∃ g,f=g++[10]
theorem k27 {f t:By} (r:wj σ D a) (h:kq σ D left con) (w:con (i,false)≠none→i=1→∀ l,con (2,l)=none) (hf:k9N f) (ht:10∉t) (hc:con (i,false)=none∧f=[]∨con (i,false)=some (f++t)) (l:(f++t).length≤1000000)
  (k:∀ σ',New σ σ'→Q (.bytes f) σ'):K.C (n+4) KA [.ref a,.str (nmT i)] σ Q X:=by
 refine kj JY [some (.ref a),some (.str (nmT i)),none] rfl rfl ?_
 refine r.meth rfl ?_
 refine k4f r h w fun σ1 n1=>?_
 rcases hc with ⟨hc,rfl⟩ | hc
 ·refine k07 (b := !(con (i,false)).isSome) (by refine er hc ?_;rfl) ?_
  exact k σ1 n1
 ·refine JH (b := !(con (i,false)).isSome) (by refine er hc ?_;rfl) ?_
  refine (r.n n1).attr rfl ?_
  refine (h.n n1).obj.meth rfl ?_
  refine (r.n n1).meth rfl ?_
  refine Yr (r.n n1) fun σ2 n2=>?_
  refine k7W (h.n (n1.tr n2)) hc ?_
  refine And.intro (ky l) ?_
  rcases hf with rfl | ⟨g,rfl⟩
  ·have e:k12 (jz 10 ([]++t))+1=0:=by refine er (List.nil_append _) ?_;rw[WJ ht];rfl
   refine kK (jk (by refine er e ?_;unfold KI;decide)) ?_
   refine kZ (c:=[]) l ?_ (k σ2 (n1.tr n2))
   refine er e ?_;exact wP []
  ·have e:k12 (jz 10 (g++[10]++t))+1=((g++[10]).length:Nat):=by refine er (List.append_assoc _ _ _) ?_;rw[show [10]++t=10::t from rfl,k1x ht];refine er List.length_append ?_;rfl
   refine kK (jk (by refine er e ?_;rw[List.length_append] at l;unfold KI;lia)) ?_
   refine kZ (c:=g++[10]) l ?_ (k σ2 (n1.tr n2))
   refine er e ?_;exact wP _
end
end
section
variable {K:Calls}
theorem wZ {σ:Sto} {a:Addr} {xs ys:List V} {lo hi:Option Int} {Q:QV} (h:σ.get a=some (.list xs)) (l:xs.length≤kt) (e:JX xs lo hi=ys) (q:∀ r,¬ σ.has r→Q (.ref r) (σ.upd r (.list ys))):wd (.ref a) lo hi σ Q:=k4o h l (e▸q)
theorem k3K {x y:By} (h:10∉x):kz 10 (x++10::y)=x::kz 10 y:=by
 induction x with
 | nil=>show (if (10:UInt8)=10 then []::kz 10 y else _)=_;exact er (if_pos rfl) rfl
 | cons d r ih =>
  refine er List.cons_append ?_;refine er (Jn _ _ _) ?_;rw[if_neg fun e:d=10=>h (e▸List.mem_cons_self),ih fun m=>h (List.mem_cons_of_mem _ m)]
theorem k7E {r:Rec} (h:Ji r.m):10∉yj r:=fun m=>by
 rcases List.mem_append.1 m with m | m
 ·exact (JD r.o r.n).2.2.2.2.2.1 m
 ·rcases List.mem_append.1 m with m | m
  ·exact (wC _ _).2 m
  ·cases e:r.m with
   | nil=>rw[e] at m;exact nomatch m
   | cons c t =>
    rw[e] at m
    rcases List.mem_cons.1 m with m | m
    ·exact absurd m (by decide)
    ·refine x11 (List.mem_map.1 m) fun x mx ex=>?_
     have:=h.2 x (by refine er e ?_;exact mx)
     have:=congrArg UInt8.toNat ex
     have z:x.toUInt8.toNat=x:=by simp;lia
     rw[z] at this;exact absurd this (by have:=h.2 x (by refine er e ?_;exact mx);exact this.1)
noncomputable abbrev Ka (rs:List Rec):By:=rs.flatMap yJ
theorem Us:∀ {rs:List Rec},(∀ r∈rs,Ji r.m)→kz 10 (Ka rs)=rs.map yj++[[]]
 | [],_=>rfl
 | r::rs,h=>by
  show kz 10 ((yj r++[10])++Ka rs)=yj r::(rs.map yj++[[]])
  refine er (List.append_assoc _ _ _) ?_
  exact (k3K (k7E (h r List.mem_cons_self))).trans (congrArg (yj r::·) (Us fun r m=>h r (List.mem_cons_of_mem _ m)))
theorem k7h {α:Type} {l:List α} {x:α}:JX (l++[x]) none (some (-1))=l:=by
 show ((l++[x]).take (clipAt (l++[x]).length (-1))).drop 0=l
 exact er List.length_append (er List.drop_zero (er k44 (er List.take_left rfl)))
theorem k4x {r:Rec} (h:Ji r.m):(yJ r).length≤140:=by
 unfold yJ yj
 rw[List.length_append,List.length_append,List.length_append,(JD r.o r.n).1,(wC _ _).1]
 cases e:r.m with
 | nil=>decide
 | cons c t =>
  have:=h.1
  rw[e] at this
  show 18+(20+((byt (c::t)).length+1))+1≤140
  refine er (List.length_map _) ?_;lia
theorem Jr:∀ {rs:List Rec},(∀ r∈rs,Ji r.m)→(Ka rs).length≤140*rs.length
 | [],_=>Nat.zero_le _
 | r::rs,h=>by
  have:=k4x (h r List.mem_cons_self)
  have:=Jr (rs:=rs) fun r m=>h r (List.mem_cons_of_mem _ m)
  show (yJ r++Ka rs).length≤140*(rs.length+1)
  refine er List.length_append ?_;lia
theorem uT (rs:List Rec):k9N (Ka rs):=by
 rcases List.eq_nil_or_concat rs with rfl | ⟨l,r,rfl⟩
 ·exact .inl rfl
 ·refine .inr ⟨Ka l++yj r,?_⟩
  refine er List.concat_eq_append ?_
  show (l++[r]).flatMap yJ=_
  refine er List.flatMap_append ?_;refine er (List.append_assoc _ _ _) ?_;exact congrArg _ (List.append_nil _)
structure Jm (con:Con) (i:Fin 4) (rs:List Rec):Prop where
 msgs:∀ r∈rs,Ji r.m
 len:rs.length≤100
 is:(con (i,false)=none∧rs=[])∨∃ t,con (i,false)=some (Ka rs++t)∧10∉t∧t.length≤10000
noncomputable def k2v (con:Con) (i:Fin 4):Prop:=con (i,false)≠none→i=1→∀ l,con (2,l)=none
noncomputable def ku (σ:Sto):List Addr→List Rec→Prop
 | [],rs=>rs=[]
 | a::as,rs=>∃ r t,rs=r::t∧Kp σ a r∧ku σ as t
section
variable {σ σ':Sto} {as:List Addr} {rs:List Rec}
theorem ku.n (f:New σ σ'):∀ {as:List Addr} {rs:List Rec},ku σ as rs→ku σ' as rs
 | [],_,h=>h
 | _::_,_,⟨r,t,e,h,k⟩=>⟨r,t,e,h.n f,ku.n f k⟩
theorem ku.snoc {a:Addr} {r:Rec} (x:Kp σ a r):∀ {as:List Addr} {rs:List Rec},ku σ as rs→ku σ (as++[a]) (rs++[r])
 | [],_,h=>by subst h;exact ⟨r,[],rfl,x,rfl⟩
 | _::_,_,⟨r',t,e,h,k⟩=>⟨r',t++[r],by refine er e ?_;rfl,h,ku.snoc x k⟩
theorem ku.len:∀ {as:List Addr} {rs:List Rec},ku σ as rs→as.length=rs.length
 | [],_,h=>by subst h;rfl
 | _::_,_,⟨r',t,e,h,k⟩=>by refine er e ?_;exact congrArg (·+1) k.len
theorem k04 {β:Type} {g:Option Addr} {σ₀:Sto} {turn:V→Loc→Sto→QS→Prop} {Q:QS} (L:List Rec→β→Loc) (J:List Rec→Sto→Prop) {as:List Addr} {rs:List Rec}
  (hs:∀ dn σ,J dn σ→jF g σ₀ σ)
  (step:∀ dn r q y,rs=dn++r::q→∀ o σ,J dn σ→Kp σ y r→∀ K:QS,(∀ o' ρ' σ',ρ'=L (dn++[r]) o'→J (dn++[r]) σ'→(∀ ys ts,ku σ ys ts→ku σ' ys ts)→K none ρ' σ')→(∀ v ρ' σ',Q (some v) ρ' σ'→K (some v) ρ' σ')→turn (.ref y) (L dn o) σ K)
  (done:∀ o σ,J rs σ→Q none (L rs o) σ) (o:β) {σ:Sto} (i:J [] σ) (en:ku σ as rs):KU g σ₀ turn (as.map .ref) (L [] o) σ Q:=by
 have z:∀ as q dn,rs=dn++q→∀ o σ,J dn σ→ku σ as q→KU g σ₀ turn (as.map .ref) (L dn o) σ Q:=fun as=>by
  induction as with
  | nil=>exact fun q dn e o σ i en=>by cases en;rw[List.append_nil] at e;subst e;exact ⟨hs _ _ i,done o σ i⟩
  | cons y as ih =>
   refine fun q dn e o σ i en=>?_
   refine x22 en fun r t e' x1 x2=>?_
   rw[e'] at e
   exact ⟨hs _ _ i,step dn r t y e o σ i x1 _ (fun o' ρ' σ' rr i' w=>by refine er rr ?_;exact ih t _ (by refine er e ?_;refine er (List.append_assoc _ _ _) ?_;rfl) o' σ' i' (w _ _ x2)) fun z9 z9 z9 q=>q⟩
 exact z as rs [] rfl o σ i en
theorem k6w {g:Option Addr} {σ₀:Sto} {turn:V→Sto→(Option V→Sto→Prop)→Prop} {Q:QV} (f:Rec→V) {as:List Addr} {rs:List Rec}
  (hg:∀ a,g=some a→σ₀.has a) (hl:rs.length≤kt)
  (step:∀ y r σ,New σ₀ σ→Kp σ y r→∀ K:Option V→Sto→Prop,(∀ σ',New σ σ'→K (some (f r)) σ')→turn (.ref y) σ K)
  (done:∀ σ r,New σ₀ σ→¬ σ.has r→Q (.ref r) (σ.upd r (.list (rs.map f)))) (en:ku σ₀ as rs):Kv g σ₀ turn (as.map .ref) [] σ₀ Q:=by
 have st:∀ σ,New σ₀ σ→jF g σ₀ σ:=fun σ n=>by
  cases g with
  | none=>trivial
  | some a=>exact n.unt id (hg a rfl)
 have z:∀ as q dn,rs=dn++q→∀ σ,New σ₀ σ→ku σ₀ as q→Kv g σ₀ turn (as.map .ref) (dn.map f) σ Q:=fun as=>by
  induction as with
  | nil=>exact fun q dn e σ n en=>by cases en;rw[List.append_nil] at e;subst e;exact ⟨st _ n,fun r hr=>done σ r n hr⟩
  | cons y as ih =>
   refine fun q dn e σ n en=>?_
   refine x22 en fun r t e' x1 x2=>?_
   rw[e'] at e
   refine ⟨st _ n,step y r σ n (x1.n n) _ fun σ' n'=>⟨?_,?_⟩⟩
   ·have w:=congrArg List.length e
    rw[List.length_append,List.length_cons] at w
    refine er (List.length_map _) ?_;lia
   ·have u:=ih t (dn++[r]) (by refine er e ?_;refine er (List.append_assoc _ _ _) ?_;rfl) σ' (n.tr n') x2
    rw[List.map_append] at u;exact u
 exact z as rs [] rfl σ₀ .refl en
theorem ku.at:∀ {as:List Addr} {rs:List Rec} {i:Nat},ku σ as rs→i<rs.length→∃ a r,as[i]?=some a∧rs[i]?=some r∧Kp σ a r
 | [],_,_,h,l=>by subst h;exact nomatch l
 | a::_,_,0,⟨r',t,e,h,k⟩,l=>⟨a,r',rfl,by refine er e ?_;rfl,h⟩
 | _::_,_,i+1,⟨r',t,e,h,k⟩,l=>by
  subst e
  refine x22 (ku.at k (Nat.lt_of_succ_lt_succ l)) fun a r h1 h2 h3=>?_
  exact ⟨a,r,h1,h2,h3⟩
end
section
variable {σ:Sto} {D:Dk} {left:Option Int} {con:Con} {n:Nat} {Q:QV} {X:QX} {i:Fin 4} {a:Addr} {rs:List Rec}
theorem Jm.fin (lg:Jm con i rs):∃ t,10∉t∧(con (i,false)=none∧Ka rs=[]∨con (i,false)=some (Ka rs++t))∧(Ka rs++t).length≤100000:=by
 have l1:=Jr lg.msgs
 have l2:=lg.len
 rcases lg.is with ⟨e1,e2⟩ | ⟨t,e1,e2,e3⟩
 ·exact ⟨[],(fun m=>nomatch m),.inl ⟨e1,by refine er e2 ?_;rfl⟩,by refine er (List.append_nil _) ?_;lia⟩
 ·exact ⟨t,e2,.inr e1,by refine er List.length_append ?_;lia⟩
theorem K0T (r:wj σ D a) (h:kq σ D left con) (w:k2v con i) (lg:Jm con i rs) (k:∀ σ',New σ σ'→Q (.bytes (Ka rs)) σ'):K.C (n+4) KA [.ref a,.str (nmT i)] σ Q X:=by
 refine x12 lg.fin fun t h1 h2 h3=>?_
 exact k27 r h w (uT rs) h1 h2 (Nat.le_trans h3 (by decide)) k
noncomputable def K1U (σ3:Sto) (dn:List Rec) (acc:List V) (σ':Sto):Prop:=∀ G:Prop,(∀ as,New σ3 σ'→acc=as.map .ref→ku σ' as dn→G)→G
theorem Wm (r:wj σ D a) (h:kq σ D left con) (w:k2v con i) (lg:Jm con i rs)
  (k:∀ s as σ',New σ σ'→¬ σ.has s→σ'.get s=some (.list (as.map .ref))→ku σ' as rs→Q (.ref s) σ'):K.C (n+5) Kk [.ref a,.str (nmT i)] σ Q X:=by
 have l1:=Jr lg.msgs
 have l2:=lg.len
 refine kj Qb [some (.ref a),some (.str (nmT i)),none] rfl rfl ?_
 refine r.meth rfl ?_
 refine K0T r h w lg fun σ1 n1=>?_
 refine And.intro (by lia) ?_
 refine fun s hs=>?_
 refine er (Us lg.msgs) ?_
 refine wZ (ys:=rs.map (V.bytes∘yj)) kb (ky (by refine er (List.length_map _) ?_;rw[List.length_append,List.length_map];show _+1≤_;lia)) (by rw[List.map_append,List.map_map];exact k7h) fun s2 hs2=>?_
 have n3:=(n1.new (c:=.list ((rs.map yj++[[]]).map V.bytes)) hs).new (c:=.list (rs.map (V.bytes∘yj))) hs2
 have g3:((σ1.upd s (.list ((rs.map yj++[[]]).map V.bytes))).upd s2 (.list (rs.map (V.bytes∘yj)))).get s2=some (.list (rs.map (V.bytes∘yj))):=kb
 generalize (σ1.upd s (.list ((rs.map yj++[[]]).map V.bytes))).upd s2 (.list (rs.map (V.bytes∘yj)))=σ3 at n3 g3 ⊢
 refine Kj g3 (ky (by refine er (List.length_map _) ?_;lia)) ?_
 refine k1Y (g:=some s2) (K1U σ3) (fun dn acc σ' i=>i _ fun z9 nw z9 z9=>nw.u g3) (ky (by lia)) (fun dn y q e acc σ' i KK k z9=>i _ fun as nw e3 en=>?_) (fun acc σ' i t ht=>i _ fun as nw e3 en=>?_) fun G g=>g [] .refl rfl rfl
 ·refine (r.n (n3.tr nw)).attr rfl ?_
  refine UV (lg.msgs y (by refine er e ?_;exact List.mem_append_right _ List.mem_cons_self)) fun a' σ4 n4 ha' o4=>?_
  exact k _ _ fun G g=>g (as++[a']) (nw.tr n4) (by refine er e3 (er List.map_append ?_);rfl) ((en.n n4).snoc o4)
 ·exact k t as _ ((n3.tr nw).new ht) ((n3.tr nw).nhas ht) (by refine er e3 ?_;exact kb) (en.n (Fr.refl.new ht))
end
end
section
variable {K:Calls}
noncomputable abbrev dR:Rec:=⟨0,0,0,0,[]⟩
noncomputable def Kg (r:Rec):V:=.tup [.bytes (jj r.o),.bytes (jj r.n),.bytes k5b,.bytes k4K,k57 r.w,.bytes (Ju r.z),.str r.m]
noncomputable def k2o (σ:Sto) (e:Addr) (t:Tx):Prop:=Obj Kn σ e [(.str Wq,.str t)]
noncomputable abbrev YX (nm:Tx) (n:Int):Tx:=nm++[64,123]++Kh n++[125]
theorem qG:∀ o:Fin 6,(jj o==[0,0,0,0])=decide (o=0):=by decide
noncomputable def qb (rs:List Rec) (n:Int):Option V :=
 if 0≤n∧n<rs.length then some (.bytes (jj (rs.getD (rs.length-1-n.toNat) dR).n))
 else if n=rs.length∧rs≠[]∧(rs.getD 0 dR).o≠0 then some (.bytes (jj (rs.getD 0 dR).o)) else none
noncomputable def QD (m:Int) (r:Rec):Bool:=decide (((1000+r.w.val:Nat):Int)≤m)
noncomputable def ju (rs:List Rec) (m:Int):Option V:=match rs.reverse.find? (QD m) with
 | some r=>some (.bytes (jj r.n))
 | none=>if rs=[] then none else some (.bytes (jj (if (rs.getD 0 dR).o=0 then (rs.getD 0 dR).n else (rs.getD 0 dR).o)))
section
variable {σ:Sto} {D:Dk} {left:Option Int} {con:Con} {n:Nat} {Q:QV} {X:QX} {i:Fin 4} {a s:Addr} {rs:List Rec} {as:List Addr}
theorem wI {j:Int} {p:Nat} (g:σ.get s=some (.list (as.map .ref))) (en:ku σ as rs) (l:rs.length≤100) (e:j=(p:Nat)) (lp:p<rs.length) (q:∀ a,Kp σ a (rs.getD p dR)→Q (.ref a) σ):YH (.ref s) (.int j) σ Q:=by
 refine x22 (en.at lp) fun a r h1 h2 h3=>?_
 subst e
 refine YF g (by unfold KI;lia) (p:=p) (by unfold qA;refine er (if_pos (Int.natCast_nonneg _)) (er (if_pos (by rw[List.length_map,en.len];lia)) ?_);rfl) ?_
 refine er (List.getD_eq_getElem?_getD) (er (List.getElem?_map) (er h1 ?_))
 have t:=q a
 rw[List.getD_eq_getElem?_getD,h2] at t
 exact t h3
theorem k9I {r:Rec} (o:Kp σ a r) (q:Q (Kg r) σ):K.C (n+1) wm [.ref a] σ Q X:=by
 refine x11 o ?_;clear o;intro p o1 o2
 refine kj YU [some (.ref a),none] rfl rfl ?_
 refine o1.attr rfl ?_
 refine o1.attr rfl ?_
 refine o1.attr rfl ?_
 refine o2.attr rfl ?_
 refine o2.attr rfl ?_
 refine o2.attr rfl ?_
 refine o2.attr rfl ?_
 exact o1.attr rfl q
theorem k5p (h:kq σ D left con) (w:k2v con i) (lg:Jm con i rs) (k:∀ s σ',New σ σ'→¬ σ.has s→σ'.get s=some (.list (rs.map Kg))→Q (.ref s) σ'):K.C (n+6) kP [.ref D.d,.str (nmT i)] σ Q X:=by
 have l2:=lg.len
 refine kj YO [some (.ref D.d),some (.str (nmT i))] rfl rfl ?_
 refine Zp fun a σ1 n1 ha r=>?_
 refine r.meth rfl ?_
 refine Wm r (h.n n1) w lg fun s as σ2 n2 hs g en=>?_
 have el:=en.len
 refine Kj g (ky (by refine er (List.length_map _) ?_;lia)) ?_
 refine k6w (g:=some s) Kg (fun z9 e=>by injection e with e;refine er (Eq.symm e) ?_;exact Sto.has_of g) (ky (by lia)) (fun y r' σ' nw x1 K k=>k9I x1 (k _ .refl)) (fun σ' t nw ht=>?_) en
 have nn:=(n1.tr n2).tr nw
 exact k t _ (nn.new ht) (nn.nhas ht) kb
theorem UQ {t:Tx} {F:Addr→Sto→Prop} (kx:∀ e σ',New σ σ'→k2o σ' e t→F e σ'):∀ a d,¬ σ.has a→¬ σ.has d→a≠d→F a ((σ.upd d (.dict [(.str Wq,V.str t)])).upd a (.inst Kn d)):=fun a d ha hd ne =>
 kx a _ ((Fr.refl.set (.inr hd)).set (.inr ha)) ⟨d,kb,KO ne kb,ne⟩
theorem yR {m:Int} {Q:QV} (hm:m.natAbs<10^10) (hl:(Kh m).length≤1000) (q:Q (.str (YX (nmT i) m)) σ) :
  ((nmT i).length+2≤kt∧(m.natAbs<10^10∧((nmT i++[64,123]).length+(Kh m).length≤kt∧((nmT i++[64,123]++Kh m).length+1≤kt∧Q (.str (YX (nmT i) m)) σ)))):=by
 have:=(k3B i).1
 refine ⟨ky (by lia),hm,ky ?_,ky ?_,q⟩
 ·refine er List.length_append ?_;show _+2+_≤_;lia
 ·refine er List.length_append (er List.length_append ?_);show _+2+_+1≤_;lia
theorem k8I {m:Int} {F:QXS} (r:wj σ D a) (g:σ.get s=some (.list (as.map .ref))) (en:ku σ as rs) (l:rs.length≤100) (hm:m.natAbs<10^10) (hl:(Kh m).length≤1000) (c1:¬ (0≤m∧m<rs.length))
  (k:∀ v σ',qb rs m=some v→New σ σ'→Q v σ') (kx:∀ e σ',qb rs m=none→New σ σ'→k2o σ' e (YX (nmT i) m)→F [some (.ref a),some (.str (nmT i)),some (.int m),some (.ref s)] e σ') :
  exs (K.C (n+1)) kU [.ite (.and (.cmp .eq (.loc 2) (.bi .len [(.loc 3)])) (.and (.cmp .ne (.loc 3) (.list [])) (.cmp .ne (.attr ki [111,108,100] (.sub (.loc 3) (.cint 0))) (.callF JZ [(.attr kh [115,105,122,101] (.loc 0))])))) [.ret (.attr ki [111,108,100] (.sub (.loc 3) (.cint 0)))] [],
   .raise Kn [(.bin .add (.bin .add (.bin .add (.loc 1) (.cstr [64,123])) (.bi .str [(.loc 2)])) (.cstr [125]))]] [some (.ref a),some (.str (nmT i)),some (.int m),some (.ref s)] σ (fun o z9 σ=>Q (o.getD .none) σ) F:=by
 have el:=en.len
 have bad:∀ σ',New σ σ'→qb rs m=none→exs (K.C (n+1)) kU [.raise Kn [(.bin .add (.bin .add (.bin .add (.loc 1) (.cstr [64,123])) (.bi .str [(.loc 2)])) (.cstr [125]))]] [some (.ref a),some (.str (nmT i)),some (.int m),some (.ref s)] σ' (fun o z9 σ=>Q (o.getD .none) σ) F:=fun σ' n' z =>
  yR hm hl (UQ fun e σ'' n'' b=>kx e σ'' z (n'.tr n'') b)
 have ln:((as.map V.ref).length:Int)=rs.length:=by rw[List.length_map,el]
 refine jN g (ky (by refine er (List.length_map _) ?_;lia)) ?_
 refine Ku (b:=m==((as.map V.ref).length:Nat)) (fun z=>?_) (fun z=>?_)
 ·have em:m=rs.length:=(eq_of_beq z).trans ln
  refine fun t ht=>?_
  have nt:New σ (σ.upd t (.list [])):=Fr.refl.new ht
  refine QJ (nt.g g) kb ?_
  refine Ku (b := !(as.map V.ref).isEmpty) (fun y=>?_) (fun y=>?_)
  ·have l0:0<rs.length:=by
    refine er (Eq.symm el) ?_;cases as with
    | nil=>injection y
    | cons _ _=>exact Nat.succ_pos _
   have rn:rs≠[]:=fun q=>by rw[q] at l0;exact nomatch l0
   refine wI (nt.g g) (en.n nt) l (p:=0) rfl l0 fun e he=>?_
   refine x11 he ?_;clear he;intro p o1 z9
   refine o1.attr rfl ?_
   refine (r.n nt).attr rfl ?_
   refine Ys fun σ2 n2=>?_
   refine And.intro rfl ?_
   refine Ku (b := !(jj (rs.getD 0 dR).o==[0,0,0,0])) (fun x=>?_) (fun x=>?_)
   ·rw[qG] at x
    have x':(rs.getD 0 dR).o≠0:=fun q=>by rw[q] at x;injection x
    have nn:=nt.tr n2
    refine wI (nn.g g) (en.n nn) l (p:=0) rfl l0 fun e he=>?_
    refine x11 he ?_;clear he;intro p o1 z9
    refine o1.attr rfl ?_
    exact k _ σ2 (by unfold qb;rw[if_neg c1,if_pos ⟨em,rn,x'⟩];rfl) nn
   ·rw[qG] at x
    exact bad σ2 (nt.tr n2) (by unfold qb;exact er (if_neg c1) (er (if_neg fun q=>q.2.2 (by simpa using x)) rfl))
  ·have rn:rs=[]:=by
    cases as with
    | nil=>subst en;rfl
    | cons _ _=>injection y
   exact bad _ nt (by unfold qb;exact er (if_neg c1) (er (if_neg fun q=>q.2.1 rn) rfl))
 ·exact bad σ .refl (by unfold qb;exact er (if_neg c1) (er (if_neg fun q=>ne_of_beq_false z (q.1.trans ln.symm)) rfl))
theorem at_c {m:Int} (r:wj σ D a) (h:kq σ D left con) (w:k2v con i) (lg:Jm con i rs) (hm:m.natAbs<10^10) (hl:(Kh m).length≤1000)
  (k:∀ v σ',qb rs m=some v→New σ σ'→Q v σ') (kx:∀ e σ',qb rs m=none→New σ σ'→k2o σ' e (YX (nmT i) m)→X e σ'):K.C (n+6) wk [.ref a,.str (nmT i),.int m] σ Q X:=by
 have l2:=lg.len
 refine kj zw [some (.ref a),some (.str (nmT i)),some (.int m),none] rfl rfl ?_
 refine r.meth rfl ?_
 refine Wm r h w lg fun s as σ1 n1 hs g en=>?_
 have el:=en.len
 have ln:((as.map V.ref).length:Int)=rs.length:=by rw[List.length_map,el]
 have rest:=fun c1=>k8I (K:=K) (n:=n+4) (Q:=Q) (i:=i) (m:=m) (F:=fun z9 e σ=>X e σ) (r.n n1) g en l2 hm hl c1 (fun v σ' z n'=>k v σ' z (n1.tr n')) fun e σ' z n' b=>kx e σ' z (n1.tr n') b
 refine Ku (b:=decide (0≤m)) (fun z=>?_) (fun z=>?_)
 ·refine jN g (ky (by refine er (List.length_map _) ?_;lia)) ?_
  refine Ku (b:=decide (m<((as.map V.ref).length:Nat))) (fun y=>?_) (fun y=>?_)
  ·have z':=of_decide_eq_true z
   have y':=of_decide_eq_true y
   rw[ln] at y'
   refine jN g (ky (by refine er (List.length_map _) ?_;lia)) ?_
   refine wI g en l2 (p:=rs.length-1-m.toNat) (by refine er ln ?_;exact k6B z' y') (k4Z z' y') fun e he=>?_
   refine x11 he ?_;clear he;intro p o1 z9
   refine o1.attr rfl ?_
   exact k _ σ1 (by unfold qb;refine er (if_pos ⟨z',y'⟩) ?_;rfl) n1
  ·exact rest fun q=>of_decide_eq_false y (by refine er ln ?_;exact q.2)
 ·exact rest fun q=>of_decide_eq_false z q.1
theorem ku.append:∀ {as bs:List Addr} {rs ts:List Rec},ku σ as rs→ku σ bs ts→ku σ (as++bs) (rs++ts)
 | [],_,_,_,h,k=>by subst h;exact k
 | _::_,_,_,_,⟨r,t,e,h,h2⟩,k=>⟨r,t++_,by refine er e ?_;rfl,h,h2.append k⟩
theorem ku.rev:∀ {as:List Addr} {rs:List Rec},ku σ as rs→ku σ as.reverse rs.reverse
 | [],_,h=>by subst h;rfl
 | a::as,_,⟨r,t,e,h,k⟩=>by
  subst e
  refine er List.reverse_cons (er List.reverse_cons ?_)
  exact k.rev.append ⟨r,[],rfl,h,rfl⟩
noncomputable def K1B (σ3:Sto) (m:Int) (dn:List Rec) (σ':Sto):Prop:=∀ G:Prop,(New σ3 σ'→dn.find? (QD m)=none→G)→G
theorem k4Q {m:Int} (r:wj σ D a) (h:kq σ D left con) (w:k2v con i) (lg:Jm con i rs) (hm:m.natAbs<10^10) (hl:(Kh m).length≤1000)
  (k:∀ v σ',ju rs m=some v→New σ σ'→Q v σ') (kx:∀ e σ',ju rs m=none→New σ σ'→k2o σ' e (YX (nmT i) m)→X e σ'):K.C (n+6) jU [.ref a,.str (nmT i),.int m] σ Q X:=by
 have l2:=lg.len
 refine kj qZ [some (.ref a),some (.str (nmT i)),some (.int m),none,none,none] rfl rfl ?_
 refine r.meth rfl ?_
 refine Wm r h w lg fun s as σ1 n1 hs g en=>?_
 have el:=en.len
 refine fun t ht=>?_
 have nt:New σ1 (σ1.upd t (.list [])):=Fr.refl.new ht
 refine k7A (nt.g g) kb ?_
 have n2:=n1.tr nt
 have g2:=nt.g g
 have en2:=en.n nt
 generalize σ1.upd t (.list [])=σ2 at nt n2 g2 en2 ⊢
 refine Ku (b:=(as.map V.ref).isEmpty) (fun y=>?_) (fun y=>?_)
 ·have rn:rs=[]:=by
   cases as with
   | nil=>subst en;rfl
   | cons _ _=>injection y
  refine yR hm hl (UQ fun e σ'' n'' b=>kx e σ'' (by unfold ju;refine er rn ?_;rfl) (n2.tr n'') b)
 ·have rn:rs≠[]:=fun q=>by
   subst q
   cases as with
   | nil=>injection y
   | cons _ _=>refine x21 en ?_;clear en;intro z9 z9 e z9;injection e
  refine k7O g2 (ky (by refine er (List.length_map _) ?_;lia)) fun v hv=>?_
  refine er (Eq.symm List.map_reverse) ?_
  have n3:New σ2 (σ2.upd v (.list (as.reverse.map V.ref))):=Fr.refl.new hv
  have gv:(σ2.upd v (.list (as.reverse.map V.ref))).get v=some (.list (as.reverse.map V.ref)):=kb
  have n03:=n2.tr n3
  have en3:=(en2.n n3)
  have g3:=n3.g g2
  generalize σ2.upd v (.list (as.reverse.map V.ref))=σ3 at n3 gv n03 en3 g3 ⊢
  refine Kj gv (ky (by rw[List.length_map,List.length_reverse];lia)) ?_
  refine k04 (g:=some v) (fun (_:List Rec) (o:Option V)=>[some (.ref a),some (.str (nmT i)),some (.int m),some (.ref s),o,none])
   (K1B σ3 m) (fun dn σ' i=>i _ fun f z9=>f.u gv) (fun dn r' t y e o σ' i x1 K k' kr=>i _ fun f fe=>?_) (fun o σ' i=>i _ fun f fe=>?_) _ (fun G g=>g .refl rfl) en3.rev
  ·refine x11 x1 fun p o1 o2=>?_
   refine o1.attr rfl ?_
   refine o2.attr rfl ?_
   refine Ku (b:=decide (((1000+r'.w.val:Nat):Int)≤m)) (fun z=>?_) (fun z=>?_)
   ·refine o1.attr rfl ?_
    refine kr _ _ _ (k (.bytes (jj r'.n)) σ' ?_ (n03.tr f))
    unfold ju;refine er e (er (List.find?_append) (er fe (er (List.find?_cons_of_pos (p:=QD m) z) ?_)));rfl
   ·refine k' (some (.ref y)) _ _ rfl (fun G g=>g f ?_) fun z9 z9 x=>x
    refine er (List.find?_append) (er fe (er (List.find?_cons_of_neg (p:=QD m) (by show ¬ decide (((1000+r'.w.val:Nat):Int)≤m)=true;refine er z ?_;exact Bool.false_ne_true)) ?_));rfl
  ·have n3':=n03.tr f
   have l0:0<rs.length:=List.length_pos_iff.2 rn
   refine wI (f.g g3) (en3.n f) l2 (p:=0) rfl l0 fun e he=>?_
   refine x11 he ?_;clear he;intro p o1 z9
   refine o1.attr rfl ?_
   refine (r.n n3').attr rfl ?_
   refine Ys fun σ4 n4=>?_
   refine Ku (b:=jj (rs.getD 0 dR).o==[0,0,0,0]) (fun x=>?_) (fun x=>?_)
   ·refine (o1.n n4).attr rfl ?_
    rw[qG] at x
    exact k (.bytes (jj (rs.getD 0 dR).n)) σ4 (by unfold ju;refine er fe ?_;show (if rs=[] then none else _)=_;exact er (if_neg rn) (er (if_pos (of_decide_eq_true x)) rfl)) (n3'.tr n4)
   ·refine (o1.n n4).attr rfl ?_
    rw[qG] at x
    exact k (.bytes (jj (rs.getD 0 dR).o)) σ4 (by unfold ju;refine er fe ?_;show (if rs=[] then none else _)=_;exact er (if_neg rn) (er (if_neg (of_decide_eq_false x)) rfl)) (n3'.tr n4)
theorem k5G {m:Int} {f:Bool} (h:kq σ D left con) (w:k2v con i) (lg:Jm con i rs) (hm:m.natAbs<10^10) (hl:(Kh m).length≤1000)
  (k:∀ σ',New σ σ'→Q ((if f then ju rs m else qb rs m).getD (.str (YX (nmT i) m))) σ'):K.C (n+7) KR [.ref D.d,.str (nmT i),.int m,.bool f] σ Q X:=by
 refine kj Ub [some (.ref D.d),some (.str (nmT i)),some (.int m),some (.bool f),none,none] rfl rfl ?_
 refine Zp fun a σ1 n1 ha r=>?_
 have h1:=h.n n1
 cases f with
 | true =>
  refine r.meth rfl ?_
  refine k4Q r h1 w lg hm hl (fun v σ2 z n2=>?_) fun e σ2 z n2 b=>?_
  ·have t:=k σ2 (n1.tr n2)
   rw[if_pos rfl,z] at t;exact t
  ·have t:=k σ2 (n1.tr n2)
   rw[if_pos rfl,z] at t
   refine x12 b ?_;clear b;intro d b1 b2 b3
   refine And.intro ⟨d,b1⟩ ?_
   exact k0j b1 b2 rfl t
 | false =>
  refine r.meth rfl ?_
  refine at_c r h1 w lg hm hl (fun v σ2 z n2=>?_) fun e σ2 z n2 b=>?_
  ·have t:=k σ2 (n1.tr n2)
   rw[if_neg Bool.false_ne_true,z] at t;exact t
  ·have t:=k σ2 (n1.tr n2)
   rw[if_neg Bool.false_ne_true,z] at t
   refine x12 b ?_;clear b;intro d b1 b2 b3
   refine And.intro ⟨d,b1⟩ ?_
   exact k0j b1 b2 rfl t
end
end
section
variable {K:Calls}
noncomputable def clr (con:Con) (i:Fin 4):Con:=if i=1 then con.put (2,false) none else if i=2 then con.put (1,false) none else con
structure uq (con:Con):Prop where
 locks:∀ j,con (j,true)=none
 way:con (1,false)≠none→con (2,false)=none
theorem uq.tidy {con:Con} (h:uq con) (i:Fin 4):k2v con i:=fun a e l=>by
 subst e;cases l
 ·exact h.way a
 ·exact h.locks 2
theorem Con.put_ne {con:Con} {p q:Pt} {v:Option By} (h:q≠p):con.put p v q=con q:=if_neg h
theorem Con.put_at {con:Con} {p:Pt} {v:Option By}:con.put p v p=v:=if_pos rfl
theorem zk {con:Con} (h:uq con) (i:Fin 4):clr con i (i,false)=con (i,false)∧(∀ j,clr con i (j,true)=none)∧(i=2→clr con i (1,false)=none)∧(i=1→∀ l,clr con i (2,l)=none):=by
 refine f4 i (fun e=>?_) (fun e=>?_) (fun e=>?_) fun e=>?_ <;> subst e
 ·exact ⟨rfl,h.locks,(fun e=>nomatch e),(fun e=>nomatch e)⟩
 ·exact ⟨rfl,fun j=>(Con.put_ne ua).trans (h.locks j),(fun e=>nomatch e),fun z9 l=>by cases l;exact rfl;exact h.locks 2⟩
 ·exact ⟨rfl,fun j=>(Con.put_ne ua).trans (h.locks j),(fun z9=>rfl),(fun e=>nomatch e)⟩
 ·exact ⟨rfl,h.locks,(fun e=>nomatch e),(fun e=>nomatch e)⟩
section
variable {σ:Sto} {D:Dk} {left:Option Int} {con:Con} {n:Nat} {Q:QV} {X:QX} {i:Fin 4} {a s:Addr} {rs:List Rec}
theorem k3M {t:Tx} (r:wj σ D a) (h:kq σ D left con) (l:t.length≤1000∧∀ c∈t,c<256) (hv:QF con (.bytes (k0E t))=none) (k:∀ σ',New σ σ'→Q .none σ'):K.C (n+5) kM [.ref a,.str t] σ Q X:=by
 refine kj Jz [some (.ref a),some (.str t)] rfl rfl ?_
 refine r.meth rfl ?_
 refine k7M (v:=false) r h l (by refine er hv ?_;rfl) (fun e=>nomatch e) fun σ1 n1=>?_
 exact k σ1 n1
theorem K0B (r:wj σ D a) (h:kq σ D none con) (w:k2v con i) (k:∀ j σ',kJ D σ j σ'→kq σ' (D.w j) none (con.put (i,false) none)→Q .none σ'):K.C (n+5) kM [.ref a,.str (nmT i)] σ Q X:=by
 refine kj Jz [some (.ref a),some (.str (nmT i))] rfl rfl ?_
 refine r.meth rfl ?_
 refine k4f r h w fun σ1 n1=>?_
 cases e:con (i,false) with
 | none=>exact k D.inn σ1 (.new n1) (by refine er (Eq.symm e) (er Con.put_self ?_);exact h.n n1)
 | some b =>
  refine (r.n n1).attr rfl ?_
  refine (h.n n1).obj.meth rfl ?_
  refine (r.n n1).meth rfl ?_
  refine Yr (r.n n1) fun σ2 n2=>?_
  refine k1G (h.n (n1.tr n2)) e fun j σ3 a3 h3=>?_
  exact k j σ3 ((kJ.new (n1.tr n2)).trans a3) h3
theorem K06 {α:Type} {l:List α} {k:Nat} (h:k≤l.length):JX l none (some (k:Nat))=l.take k:=k0z
theorem WH {ps:List Tx} {k:Nat} {t:Tx} {v:V} {KK:QS} {X:QXS} (r:wj σ D a) (g:σ.get s=some (.list (ps.map .str))) (hk:k≤ps.length) (hp:ps.length≤100) (e:kR [47] (ps.take k)=t) (hl:t.length≤1000)
  (q:∀ σ',New σ σ'→K.C n kM [.ref a,.str t] σ' (fun z9 σ=>KK none [some (.ref a),some v,some (.ref s),some (.int (k:Nat))] σ) (X [some (.ref a),some v,some (.ref s),some (.int (k:Nat))])) :
  exs (K.C n) kU [.expr (.imeth kh kM [114,101,109,111,118,101] (.loc 0) [(.meth .sjoin (.cstr [47]) [(.slice (.loc 2) none (some (.loc 3)))])])] [some (.ref a),some v,some (.ref s),some (.int (k:Nat))] σ KK X:=by
 refine r.meth rfl ?_
 refine kK (jk (by unfold KI;lia)) ?_
 refine wZ (ys:=(ps.take k).map .str) g (ky (by refine er (List.length_map _) ?_;lia)) (by refine er (K06 (by rw[List.length_map];exact hk)) ?_;rw[List.map_take]) fun t' ht'=>?_
 refine Qz kb (ky (by refine er e ?_;show _+1≤_;lia)) ?_
 refine er e ?_
 exact q _ (Fr.refl.new ht')
noncomputable abbrev k09:Tx:=[114,101,102,115]
noncomputable abbrev Uj:Tx:=[104,101,97,100,115]
theorem k5j:∀ (i:Fin 4) (l:Bool),pB (i,l)≠k0E k09∧pB (i,l)≠k0E (k09++[47]++Uj):=by decide +kernel
theorem nof {con:Con} {b:By} (h:∀ (i:Fin 4) (l:Bool),pB (i,l)≠b):QF con (.bytes b)=none:=Wj fun p e=>h p.1 p.2 (Key.bytes.inj e).symm
noncomputable def k2l (σ:Sto) (D:Dk) (a:Addr):Prop:=∃ d,Mut kh σ a d [(k7m,.ref D.d),(k0U,.bytes ZD),(k83,.int 4)]∧¬ D.own a∧¬ D.own d
theorem k2l.ref (r:k2l σ D a):wj σ D a:=let ⟨d,r,_⟩:=r;⟨d,r⟩
theorem k2l.after {j:Addr→Prop} {σ':Sto} (r:k2l σ D a) (f:kJ D σ j σ'):k2l σ' (D.w j) a :=
 let ⟨d,r,h1,h2⟩:=r;⟨d,r.fr f.1 h1 h2,f.not h1 (Sto.has_of r.1),f.not h2 (Sto.has_of r.2.1)⟩
theorem k2l.nw {σ':Sto} (r:k2l σ D a) (f:New σ σ'):k2l σ' D a:=let ⟨d,r,h1,h2⟩:=r;⟨d,r.fr f id id,h1,h2⟩
theorem Ym (h:kq σ D left con) (k:∀ a σ',New σ σ'→¬ σ.has a→k2l σ' D a→Q (.ref a) σ'):∀ a d,¬ σ.has a→¬ σ.has d→a≠d →
  K.C (n+1) Ky [.ref a,.ref D.d,.bytes ZD,.int 4] ((σ.upd d (.dict [])).upd a (.inst kh d)) (fun r σ=>r=.none∧Q (.ref a) σ) X:=fun a d ha hd ne=>by
 obtain ⟨o,nw⟩:=Mut.start (C:=kh) ha hd ne
 refine kj KZ [some (.ref a),some (.ref D.d),some (.bytes ZD),some (.int 4)] rfl rfl ?_
 refine o.set rfl fun o=>?_
 refine o.set rfl fun o=>?_
 refine o.set rfl fun o=>?_
 exact ⟨rfl,k a _ (((nw.set (.inr hd)).set (.inr hd)).set (.inr hd)) ha ⟨d,o,fun e=>ha (h.has e),fun e=>hd (h.has e)⟩⟩
theorem k4D {xs:List V} {n:Nat} (h:σ.get a=some (.list xs)) (e:xs.length=n) (l:n≤kt) (q:Q (.int n) σ):k9v .len [.ref a] σ Q:=by
 subst e;exact jN h l q
theorem k6h (i:Fin 4) {G:Prop} (h1:∀ x,kz 47 (nmT i)=[x]→i≠2→G) (h2:∀ x,kz 47 (nmT i)=[k09,Uj,x]→i≠2→G) (h3:kz 47 (nmT i)=[k09,Uj,[97],[98]]→i=2→G):G:=by
 refine f4 i (fun e=>h1 [72,69,65,68] (by refine er e ?_;rfl) (by refine er e ?_;decide)) (fun e=>h2 [97] (by refine er e ?_;rfl) (by refine er e ?_;decide)) (fun e=>h3 (by refine er e ?_;rfl) e) fun e=>h2 [99] (by refine er e ?_;rfl) (by refine er e ?_;decide)
theorem k8W (r:k2l σ D a) (h:kq σ D left con) (nt:uq con) (hl:left≠none→clr con i=con)
  (k:∀ j σ',kJ D σ j σ'→kq σ' (D.w j) left (clr con i)→Q .none σ'):K.C (n+6) jB [.ref a,.str (nmT i)] σ Q X:=by
 refine kj JO [some (.ref a),some (.str (nmT i)),none,none] rfl rfl ?_
 refine r.ref.attr rfl ?_
 refine h.obj.meth rfl ?_
 refine r.ref.meth rfl ?_
 refine Yr r.ref fun σ1 n1=>?_
 have h1:=h.n n1
 have r1:=r.nw n1
 have loop:∀ j1 σ2 con1,kJ D σ j1 σ2→kq σ2 (D.w j1) left con1→uq con1→(i≠2→con1=clr con i)→(i=2→con1.put (1,false) none=clr con i∧(left≠none→con1 (1,false)=none))→k2l σ2 (D.w j1) a →
   exs (K.C (n+5)) kU [.asg 2 (.meth .ssplit (.loc 1) [(.cstr [47])]),.for1 3 (.range [(.cint 1),(.bi .len [(.loc 2)])]) [.expr (.imeth kh kM [114,101,109,111,118,101] (.loc 0) [(.meth .sjoin (.cstr [47]) [(.slice (.loc 2) none (some (.loc 3)))])])]] [some (.ref a),some (.str (nmT i)),none,none] σ2 (fun o z9 σ=>Q (o.getD .none) σ) (fun z9 e σ=>X e σ):=by
  clear h1 r1
  intro j1 σ2 con1 a2 h2 nt2 c1 c2 r2
  refine And.intro (Nat.le_trans (k3B i).1 (by decide)) ?_
  refine fun s hs=>?_
  have a3:=a2.n (Fr.refl.new (c:=.list ((kz 47 (nmT i)).map .str)) hs)
  have h3:=h2.n (Fr.refl.new (c:=.list ((kz 47 (nmT i)).map .str)) hs)
  have r3:=r2.nw (Fr.refl.new (c:=.list ((kz 47 (nmT i)).map .str)) hs)
  have g3:(σ2.upd s (.list ((kz 47 (nmT i)).map .str))).get s=some (.list ((kz 47 (nmT i)).map .str)):=kb
  have hs2:¬ (D.w j1).own s:=fun e=>hs (h2.has e)
  generalize σ2.upd s (.list ((kz 47 (nmT i)).map .str))=σ3 at a3 h3 r3 g3 ⊢
  have two:∀ {ps:List Tx} {KK:QS} {XX:QXS} {m:Nat} {σ':Sto},New σ3 σ'→(m=1∨m=2)→ps=kz 47 (nmT i)→ps.length≤100→2≤ps.length→kR [47] (ps.take 1)=k09→kR [47] (ps.take 2)=k09++[47]++Uj→(∀ σ'',New σ3 σ''→KK none [some (.ref a),some (.str (nmT i)),some (.ref s),some (.int (m:Nat))] σ'') →
    exs (K.C (n+5)) kU [.expr (.imeth kh kM [114,101,109,111,118,101] (.loc 0) [(.meth .sjoin (.cstr [47]) [(.slice (.loc 2) none (some (.loc 3)))])])] [some (.ref a),some (.str (nmT i)),some (.ref s),some (.int (m:Nat))] σ' KK XX:=by
   intro ps KK XX m σ' nw hm hps p1 p2 e1 e2 kk
   subst hps
   rcases hm with rfl | rfl
   ·refine WH (r3.nw nw).ref (nw.g g3) (by lia) p1 e1 (by decide) fun σ4 n4=>?_
    exact k3M (r3.nw (nw.tr n4)).ref (h3.n (nw.tr n4)) (by decide) (nof fun i l=>(k5j i l).1) fun σ5 n5=>kk σ5 ((nw.tr n4).tr n5)
   ·refine WH (r3.nw nw).ref (nw.g g3) (by lia) p1 e2 (by decide) fun σ4 n4=>?_
    exact k3M (r3.nw (nw.tr n4)).ref (h3.n (nw.tr n4)) (by decide) (nof fun i l=>(k5j i l).2) fun σ5 n5=>kk σ5 ((nw.tr n4).tr n5)
  refine k6h i (fun x e ni=>?_) (fun x e ni=>?_) fun e e2=>?_
  ·rw[e] at g3
   refine k4D g3 (n:=1) rfl (by decide) ?_
   refine And.intro trivial ?_
   exact k j1 σ3 a3 (c1 ni▸h3)
  ·have g4:=g3
   rw[e] at g4
   refine k4D g4 (n:=3) rfl (by decide) ?_
   refine And.intro trivial ?_
   refine two .refl (.inl rfl) e.symm (show 3≤100 by decide) (show 2≤3 by decide) rfl rfl fun σ4 n4=>?_
   refine And.intro trivial ?_
   refine two n4 (.inr rfl) e.symm (show 3≤100 by decide) (show 2≤3 by decide) rfl rfl fun σ5 n5=>?_
   refine And.intro trivial ?_
   exact k j1 σ5 (a3.n n5) (c1 ni▸h3.n n5)
  ·obtain ⟨c3,cl⟩:=c2 e2
   have g4:=g3
   rw[e] at g4
   refine jN g4 (by decide) ?_
   refine And.intro trivial ?_
   refine two .refl (.inl rfl) e.symm (by decide) (by decide) rfl rfl fun σ4 n4=>?_
   refine And.intro trivial ?_
   refine two n4 (.inr rfl) e.symm (by decide) (by decide) rfl rfl fun σ5 n5=>?_
   refine And.intro trivial ?_
   refine WH (ps:=[k09,Uj,[97],[98]]) (k:=3) (t:=nmT 1) (r3.nw n5).ref (n5.g g4) (by decide) (by decide) rfl (by decide) fun σ6 n6=>?_
   have n36:=n5.tr n6
   cases left with
   | none =>
    refine K0B (D:=D.w j1) (r3.nw n36).ref (h3.n n36) (nt2.tidy 1) fun j7 σ7 a7 h7=>?_
    refine And.intro trivial ?_
    exact k j7 σ7 ((a3.n n36).trans a7) (c3▸h7)
   | some l =>
    have z:=cl (fun q=>nomatch q)
    refine k3M (D:=D.w j1) (r3.nw n36).ref (h3.n n36) (k3B 1) (by refine er (ZC _) ?_;refine er (KY _ _) ?_;rw[z];rfl) fun σ7 n7=>?_
    refine And.intro trivial ?_
    have cc:con1=clr con i:=by refine er (Eq.symm c3) ?_;refine er (Eq.symm z) ?_;refine er Con.put_self ?_;rfl
    exact k j1 σ7 (a3.n (n36.tr n7)) (cc▸h3.n (n36.tr n7))
 by_cases c:i=1∧con (2,false)≠none
 ·obtain ⟨rfl,c⟩:=c
  cases e:con (2,false) with
  | none=>exact absurd e c
  | some b =>
   have hln:left=none:=Classical.byContradiction fun q=>by
    have z:=congrFun (hl q) (2,false)
    rw[e] at z;exact nomatch z
   subst hln
   have w:Way con b:=⟨e,nt.locks 2,Classical.byContradiction fun q=>c (nt.way q)⟩
   refine wr (v:=true) h1 (fun q=>nomatch q) ⟨fun z9=>⟨[98],(Uc w _).2 rfl⟩,fun z9=>rfl⟩ ?_
   refine r1.ref.attr rfl ?_
   refine h1.obj.meth rfl ?_
   refine r1.ref.meth rfl ?_
   refine Yr r1.ref fun σ2 n2=>?_
   refine zh (h1.n n2) w fun j3 σ3 a3 h3=>?_
   have a13:=(kJ.new (n1.tr n2)).trans a3
   exact loop j3 σ3 _ a13 h3 ⟨fun j=>(Con.put_ne ua).trans (nt.locks j),fun z9=>Con.put_at⟩ (fun z9=>rfl) (fun q=>nomatch q) (r.after a13)
 ·refine wr (v:=false) h1 (fun q=>by have:=(congrArg List.length q);exact nomatch this) ⟨fun q=>(nomatch q),fun q=>?_⟩ ?_
  ·obtain ⟨e1,l,e2⟩:=k7w q
   have ei:i=1:=(Prod.mk.inj e1).1
   cases l with
   | false=>exact absurd ⟨ei,e2⟩ c
   | true=>exact absurd (nt.locks 2) e2
  ·refine loop D.inn σ1 con (.new n1) h1 nt (fun q=>?_) (fun q=>⟨by subst q;rfl,fun z=>?_⟩) r1
   ·unfold clr
    by_cases z:i=1
    ·refine er (if_pos z) ?_
     have:con (2,false)=none:=Classical.byContradiction fun y=>c ⟨z,y⟩
     exact er (Eq.symm this) (er Con.put_self rfl)
    ·exact er (if_neg z) (er (if_neg q) rfl)
   ·subst q
    have:=congrFun (hl z) (1,false)
    exact this.symm.trans rfl
end
end
section
variable {K:Calls}
theorem k68 {r:Rec} (h:Ji r.m):10∉(yJ r).take ((yJ r).length/2):=fun m=>by
 have e:(yJ r).length=(yj r).length+1:=by unfold yJ;refine er List.length_append ?_;rfl
 have z:(yJ r).take ((yJ r).length/2)=(yj r).take ((yJ r).length/2):=List.take_append_of_le_length (by lia)
 rw[z] at m
 exact k7E h (List.mem_of_mem_take m)
theorem zr (rs:List Rec) (r:Rec):Ka (rs++[r])=Ka rs++yJ r:=by
 show (rs++[r]).flatMap yJ=_
 refine er List.flatMap_append ?_;exact congrArg _ (List.append_nil _)
section
variable {σ:Sto} {D:Dk} {left:Option Int} {con:Con} {n:Nat} {Q:QV} {X:QX} {i:Fin 4} {a s p:Addr} {rs:List Rec}
noncomputable def K1y (con:Con) (i:Fin 4) (rs:List Rec):Prop:=Jm con i rs∧k2v con i
theorem Jm.of_same {con':Con} (h:Jm con i rs) (e:con' (i,false)=con (i,false)):Jm con' i rs:=⟨h.msgs,h.len,by refine er e ?_;exact h.is⟩
theorem Jm.put_all {ts:List Rec} (h1:∀ r∈ts,Ji r.m) (h2:ts.length≤100):Jm (con.put (i,false) (some (Ka ts))) i ts :=
 ⟨h1,h2,.inr ⟨[],by refine er Con.put_at ?_;refine er (List.append_nil _) ?_;rfl,(fun m=>nomatch m),Nat.zero_le _⟩⟩
theorem Zu {q:Pt} {o:Option By} (h:i=1→∀ l,con (2,l)=none) (hq:i=1→q.1≠2):k2v (con.put q o) i:=fun z9 e l=>by
 refine er (Con.put_ne fun z=>hq e (by refine er (Eq.symm z) ?_;rfl)) ?_;exact h e l
theorem K1I {msg:Tx} {r:Rec} (ra:k2l σ D a) (h:kq σ D left con) (nt:uq con) (hl:left≠none→clr con i=con) (lg:Jm con i rs) (l:rs.length≤99)
  (hp:uR σ p r.w r.z∧¬ D.own p∧∀ d kv,Mut kO σ p d kv→¬ D.own d) (hw:(∀ c∈msg,Kb c=true)∧msg.length≤1000) (em:r.m=kR [32] (jd msg)) (hm:Ji r.m)
  (k:∀ j l σ',kJ D σ j σ'→kq σ' (D.w j) l ((clr con i).put (i,false) (some (Ka (rs++[r]))))→(left=none→l=none)→Q .none σ')
  (kx:∀ e j l con' σ',left≠none→kJ D σ j σ'→kq σ' (D.w j) l con'→K1y con' i rs→qO e σ'→X e σ') :
  K.C (n+7) Qe [.ref a,.str (nmT i),.bytes (jj r.o),.bytes (jj r.n),.ref p,.str msg] σ Q X:=by
 refine x03 (zk nt i) fun f1 f2 f3 f4=>?_
 have ms:∀ r'∈rs++[r],Ji r'.m:=fun r' m=>(List.mem_append.1 m).elim (lg.msgs r') fun m=>by refine er (List.mem_singleton.1 m) ?_;exact hm
 have ls:(rs++[r]).length≤100:=by refine er List.length_append ?_;show _+1≤_;lia
 refine kj WX [some (.ref a),some (.str (nmT i)),some (.bytes (jj r.o)),some (.bytes (jj r.n)),some (.ref p),some (.str msg),none,none] rfl rfl ?_
 refine ra.ref.meth rfl ?_
 refine k8W ra h nt hl fun j1 σ1 a1 h1=>?_
 have r1:=ra.after a1
 have lg1:Jm (clr con i) i rs:=lg.of_same f1
 have ti:k2v (clr con i) i:=fun z9 e l=>f4 e l
 have p1:uR σ1 p r.w r.z:=by
  refine x02 hp ?_;clear hp;intro zn0 np npd;obtain ⟨d,hp⟩:=zn0
  exact ⟨d,hp.fr a1.1 np (npd d _ hp)⟩
 refine And.intro (Nat.le_trans hw.2 (by decide)) ?_
 refine And.intro hw.1 ?_
 refine fun ws hws=>?_
 have nw:New σ1 (σ1.upd ws (.list ((jd msg).map .str))):=Fr.refl.new hws
 have ml:(kR [32] (jd msg)).length≤100:=em▸hm.1
 refine Qz kb (ky (by show _+1≤_;lia)) ?_
 refine er (Eq.symm em) ?_
 refine wR fun en σ2 n2 hen o2=>?_
 have n12:=nw.tr n2
 have e2:Kp σ2 en r:=⟨p,o2,p1.n n12⟩
 refine o2.meth rfl ?_
 refine Zj hm e2 fun σ3 n3=>?_
 have n13:=n12.tr n3
 have r3:=r1.nw n13
 have h3:=h1.n n13
 have a3:=a1.n n13
 refine r3.ref.meth rfl ?_
 refine K0T (D:=D.w j1) r3.ref h3 ti lg1 fun σ4 n4=>?_
 refine (r3.nw n4).ref.meth rfl ?_
 refine k4f (D:=D.w j1) (r3.nw n4).ref (h3.n n4) ti fun σ5 n5=>?_
 have n35:=n4.tr n5
 have r5:=r3.nw n35
 have h5:=h3.n n35
 have a5:=a3.n n35
 have el:=k4x hm
 have al:=Jr lg.msgs
 have app:∀ σ6,New σ5 σ6→((clr con i) (i,false)).getD []=Ka rs→exs (K.C (n+6)) kU [.expr (.imeth ko jf [97,112,112,101,110,100] (.attr kh [100,105,115,107] (.loc 0)) [(.imeth kh kA [112,97,116,104,95,111,102] (.loc 0) [(.loc 1)]),(.loc 6)])]
   [some (.ref a),some (.str (nmT i)),some (.bytes (jj r.o)),some (.bytes (jj r.n)),some (.ref p),some (.str msg),some (.bytes (yJ r)),some (.bytes (Ka rs))] σ6 (fun o z9 σ=>Q (o.getD .none) σ) (fun z9 e σ=>X e σ):=fun σ6 n6 eo=>by
  refine (r5.nw n6).ref.attr rfl ?_
  refine (h5.n n6).obj.meth rfl ?_
  refine (r5.nw n6).ref.meth rfl ?_
  refine Yr (r5.nw n6).ref fun σ7 n7=>?_
  refine k1n (D:=D.w j1) (h5.n (n6.tr n7)) (Yu f3 fun e l=>f4 (Prod.mk.inj e).1 l) (by lia) eo (by lia) (fun j8 l8 σ8 a8 h8 e8=>?_) fun e j l o σ' z a' h' ho c=>?_
  ·rw[← zr] at h8
   exact k j8 l8 σ8 ((a5.n (n6.tr n7)).trans a8) h8 e8
  ·refine kx e j l _ σ' z ((a5.n (n6.tr n7)).trans a') h' ⟨⟨lg.msgs,lg.len,?_⟩,Zu f4 fun q=>by refine er q ?_;decide⟩ c
   rcases ho with rfl | rfl
   ·refine er Con.put_self ?_;exact lg1.is
   ·exact .inr ⟨_,Con.put_at,k68 hm,by refine er List.length_take ?_;lia⟩
 cases ec:(clr con i) (i,false) with
 | none =>
  have er:rs=[]:=by
   rcases lg1.is with ⟨_,e⟩ | ⟨t,e,_⟩
   ·exact e
   ·rw[ec] at e;injection e
  exact app σ5 .refl (by rw[ec,er];rfl)
 | some b =>
  refine r5.ref.attr rfl ?_
  refine h5.obj.meth rfl ?_
  refine r5.ref.meth rfl ?_
  refine Yr r5.ref fun σ6 n6=>?_
  refine k7W (D:=D.w j1) (h5.n n6) ec ?_
  refine x12 lg1.fin fun t t1 t2 t3=>?_
  have eb:b=Ka rs++t:=by
   rcases t2 with ⟨e,_⟩ | e
   ·rw[ec] at e;injection e
   ·rw[ec] at e;exact Option.some.inj e
  refine And.intro (ky (by refine er eb ?_;lia)) ?_
  refine And.intro (ky (by lia)) ?_
  refine And.intro rfl ?_
  refine Ku (b := !(((b.length:Nat):Int)==((Ka rs).length:Nat))) (fun z=>?_) (fun z=>?_)
  ·refine (r5.nw n6).ref.meth rfl ?_
   refine And.intro (ky (by lia)) ?_
   refine Uz (D:=D.w j1) (r5.nw n6).ref (h5.n n6) (f2 i) f3 f4 (by refine er List.length_append ?_;lia) (fun j8 l8 σ8 a8 h8 e8=>?_) fun e j l o σ' z a' h' c=>?_
   ·rw[← zr] at h8
    exact k j8 l8 σ8 ((a5.n n6).trans a8) h8 e8
   ·exact kx e j l _ σ' z ((a5.n n6).trans a') h' ⟨lg1.of_same (Con.put_ne k67),Zu f4 fun q=>by refine er q ?_;decide⟩ c
  ·refine app σ6 n6 ?_
   refine er ec ?_;refine er eb ?_
   have y:b.length=(Ka rs).length:=by
    have:(((b.length:Nat):Int)==((Ka rs).length:Nat))=true:=by
     cases q:(((b.length:Nat):Int)==((Ka rs).length:Nat)) with
     | true=>rfl
     | false=>rw[q] at z;injection z
    exact Int.ofNat.inj (eq_of_beq this)
   rw[eb,List.length_append] at y
   refine er (List.eq_nil_of_length_eq_zero (by lia:t.length=0)) ?_;refine er (List.append_nil _) ?_;rfl
end
end
section
variable {K:Calls}
noncomputable def k21 (r:Rec):Bool:=r.n.val%2==0
noncomputable def kY (b:Int) (w:Bool) (r:Rec):Bool := !(decide (((1000+r.w.val:Nat):Int)<b) && !(w&&k21 r))
noncomputable def Ua (l:List Rec):Fin 6:=match l.getLast? with
 | none=>0
 | some y=>y.n
noncomputable def lk (acc:List Rec) (x:Rec):Rec:=match acc with
 | []=>x
 | y::t=>⟨Ua (y::t),x.n,x.w,x.z,x.m⟩
noncomputable def KJ (l:List Rec):List Rec:=l.foldl (fun acc x=>acc++[lk acc x]) []
noncomputable def Kw (rs:List Rec) (b:Int) (w:Bool):List Rec:=if (rs.filter (kY b w)).length=rs.length then rs else KJ (rs.filter (kY b w))
theorem wl (l:List Rec) (x:Rec):KJ (l++[x])=KJ l++[lk (KJ l) x]:=by unfold KJ;refine er List.foldl_append ?_;rfl
theorem K1u (acc:List Rec) (x:Rec):(lk acc x).m=x.m∧(lk acc x).n=x.n∧(lk acc x).w=x.w∧(lk acc x).z=x.z:=by cases acc <;> exact ⟨rfl,rfl,rfl,rfl⟩
theorem Zq (l:List Rec) (x:Rec):Ua (l++[x])=x.n:=by unfold Ua;exact er (List.getLast?_concat) rfl
theorem k31:∀ {l acc:List Rec},(∀ r∈l,Ji r.m)→(∀ r∈acc,Ji r.m)→(∀ r∈l.foldl (fun acc x=>acc++[lk acc x]) acc,Ji r.m)∧(l.foldl (fun acc x=>acc++[lk acc x]) acc).length=acc.length+l.length
 | [],acc,_,h=>⟨h,rfl⟩
 | x::l,acc,h1,h2=>by
  obtain ⟨a,b⟩:=k31 (l:=l) (acc:=acc++[lk acc x]) (fun r m=>h1 r (List.mem_cons_of_mem _ m)) fun r m=>(List.mem_append.1 m).elim (h2 r) fun m=>by
   refine er (List.mem_singleton.1 m) (er ((K1u acc x).1) ?_);exact h1 x List.mem_cons_self
  exact ⟨a,b.trans (by refine er List.length_append ?_;show acc.length+1+l.length=acc.length+(l.length+1);lia)⟩
theorem Uu {l:List Rec} (h:∀ r∈l,Ji r.m):(∀ r∈KJ l,Ji r.m)∧(KJ l).length=l.length:=by
 obtain ⟨a,b⟩:=k31 (acc:=[]) h fun r m=>nomatch m
 exact ⟨a,b.trans (Nat.zero_add _)⟩
theorem yN {α:Type}:∀ l:List (List α),kR [] l=l.flatten
 | []=>rfl
 | [x]=>(List.append_nil x).symm
 | x::y::r=>by
  show x++[]++kR [] (y::r)=_
  refine er (yN (y::r)) ?_;refine er (List.append_nil _) ?_;rfl
theorem k1l:∀ o:Fin 6,(jj o).length=4∧((((jj o).getD 3 0).toNat:Int).fmod 2==0)=(o.val%2==0):=by decide +kernel
section
variable {σ:Sto} {D:Dk} {left:Option Int} {con:Con} {n:Nat} {Q:QV} {X:QX} {i:Fin 4} {a s p kl:Addr} {rs:List Rec} {xs ys:List V} {as:List Addr}
theorem Obj.updL {C:Addr} {kv:List (V×V)} (g:σ.get kl=some (.list xs)) (o:Obj C σ a kv):Obj C (σ.upd kl (.list ys)) a kv:=by
 refine x12 o ?_;clear o;intro d o1 o2 o3
 exact ⟨d,KO (fun e=>by rw[e,o1] at g;cases g) o1,KO (fun e=>by rw[e,o2] at g;cases g) o2,o3⟩
theorem Kp.updL {r:Rec} (g:σ.get kl=some (.list xs)) (o:Kp σ a r):Kp (σ.upd kl (.list ys)) a r :=
 let ⟨p,h,k⟩:=o;⟨p,h.updL g,k.updL g⟩
theorem ku.updL (g:σ.get kl=some (.list xs)):∀ {as:List Addr} {rs:List Rec},ku σ as rs→ku (σ.upd kl (.list ys)) as rs
 | [],_,h=>h
 | _::_,_,⟨r,t,e,h,k⟩=>⟨r,t,e,h.updL g,ku.updL g k⟩
theorem K1V {r:Rec} (o:Kp σ a r) (q:Q (.bool (k21 r)) σ):K.C (n+1) qU [.ref a] σ Q X:=by
 refine x11 o ?_;clear o;intro p o1 o2
 obtain ⟨l,e⟩:=k1l r.n
 refine kj (k5J ki) [some (.ref a)] rfl rfl ?_
 refine o1.attr rfl ?_
 refine ZS (p:=3) rfl (by lia) (by lia) ?_
 refine And.intro (by decide) ?_
 have t:=q
 unfold k21 at t;rw[← e] at t;exact t
noncomputable def Jg (w:Bool):V:=if w then .lam else .none
theorem k0F {r:Rec} {b:Int} {w:Bool} {g:Int} {ks:List Addr} {o7 o8:Option V} {nm:V} {KK:QS} {X:QXS} (gk:σ.get kl=some (.list (ks.map .ref))) (l:ks.length≤100) (e:Kp σ s r)
  (k1:kY b w r=false→∀ σ',New σ σ'→KK none [some (.ref a),some nm,some (.int b),some (Jg w),some (.ref kl),some (.int (g+1)),some (.ref s),o7,o8] σ')
  (k2:kY b w r=true→∀ σ',New σ σ'→KK none [some (.ref a),some nm,some (.int b),some (Jg w),some (.ref kl),some (.int g),some (.ref s),o7,o8] (σ'.upd kl (.list ((ks++[s]).map .ref)))) :
  exs (K.C (n+1)) kU [.ite (.and (.cmp .lt (.attr kO [119,104,101,110] (.attr ki [112,101,114,115,111,110] (.loc 6))) (.loc 2)) (.or (.cmp .is (.loc 3) .cnone) (.not (.callL 3 [(.loc 6)])))) [.asg 5 (.bin .add (.loc 5) (.cint 1))] [.expr (.meth .lappend (.loc 4) [(.loc 6)])]]
   [some (.ref a),some nm,some (.int b),some (Jg w),some (.ref kl),some (.int g),some (.ref s),o7,o8] σ KK X:=by
 have app:∀ σ',New σ σ'→kY b w r=true→exs (K.C (n+1)) kU [.expr (.meth .lappend (.loc 4) [(.loc 6)])] [some (.ref a),some nm,some (.int b),some (Jg w),some (.ref kl),some (.int g),some (.ref s),o7,o8] σ' KK X:=fun σ' n' z=>by
  refine kK (Ja (n'.g gk)).1 ?_
  refine jn (n'.g gk) (Yh (by refine er (List.length_map _) ?_;lia)) ?_
  have t:=k2 z σ' n'
  rw[List.map_append] at t;exact t
 refine x11 e ?_;clear e;intro p o1 o2
 refine o1.attr rfl ?_
 refine o2.attr rfl ?_
 refine Ku (b:=decide (((1000+r.w.val:Nat):Int)<b)) (fun z=>?_) (fun z=>?_)
 ·cases w with
  | false =>
   exact k1 (by unfold kY;refine er z ?_;rfl) σ .refl
  | true =>
   refine K1V ⟨p,o1,o2⟩ ?_
   cases ev:k21 r with
   | true=>exact app σ .refl (by unfold kY;refine er z (er ev ?_);rfl)
   | false =>
    exact k1 (by unfold kY;refine er z (er ev ?_);rfl) σ .refl
 ·exact app σ .refl (by unfold kY;refine er z ?_;rfl)
theorem k3v {r:Rec} {acc:List Rec} {rl:Addr} {b:Int} {g:Int} {w:Bool} {nm:V} {KK:QS} {X:QXS} (ms:Ji r.m) (gr:σ.get rl=some (.list (acc.map (V.bytes∘yJ)))) (l:acc.length≤100) (e:Kp σ s r) (hrl:rl≠s)
  (k:∀ σ',New σ σ'→KK none [some (.ref a),some nm,some (.int b),some (Jg w),some (.ref kl),some (.int g),some (.ref s),some (.ref rl),some (.bytes (jj r.n))] (σ'.upd rl (.list ((acc++[lk acc r]).map (V.bytes∘yJ))))) :
  exs (K.C (n+3)) kU [.expr (.meth .lappend (.loc 7) [(.imeth ki Kd [111,99,116,101,116,115] (.new ki [(.ife (.cmp .ne (.loc 7) (.list [])) (.loc 8) (.attr ki [111,108,100] (.loc 6))),(.attr ki [110,101,119] (.loc 6)),(.attr ki [112,101,114,115,111,110] (.loc 6)),(.attr ki [109,101,115,115,97,103,101] (.loc 6))]) [])]),
   .asg 8 (.attr ki [110,101,119] (.loc 6))] [some (.ref a),some nm,some (.int b),some (Jg w),some (.ref kl),some (.int g),some (.ref s),some (.ref rl),some (.bytes (jj (Ua acc)))] σ KK X:=by
 refine kK (Ja gr).1 ?_
 refine fun t ht=>?_
 have nt:New σ (σ.upd t (.list [])):=Fr.refl.new ht
 have e1:=e.n nt
 have g1:=nt.g gr
 refine QJ (nt.g gr) kb ?_
 generalize σ.upd t (.list [])=σ1 at nt e1 g1 ⊢
 refine x11 e1 ?_;clear e1;intro p o1 o2
 refine x03 (K1u acc r) fun m1 m2 m3 m4=>?_
 have fin:Kp σ1 s r→(∀ σ2 en,New σ1 σ2→Kp σ2 en (lk acc r)→K.C (n+3) Kd [.ref en] σ2 (fun v σ=>jI .lappend (.ref rl) [v] σ fun z9 σ=>exs (K.C (n+3)) kU [.asg 8 (.attr ki [110,101,119] (.loc 6))] [some (.ref a),some nm,some (.int b),some (Jg w),some (.ref kl),some (.int g),some (.ref s),some (.ref rl),some (.bytes (jj (Ua acc)))] σ KK X)
   (X [some (.ref a),some nm,some (.int b),some (Jg w),some (.ref kl),some (.int g),some (.ref s),some (.ref rl),some (.bytes (jj (Ua acc)))])):=fun e1 σ2 en n2 oe=>by
  refine Zj (r:=lk acc r) (by refine er m1 ?_;exact ms) oe fun σ3 n3=>?_
  have n13:=n2.tr n3
  refine jn (n13.g g1) (Yh (by refine er (List.length_map _) ?_;lia)) ?_
  refine x11 ((e1.n n13).updL (ys:=acc.map (V.bytes∘yJ)++[.bytes (yJ (lk acc r))]) (n13.g g1)) fun p' x1 z9=>?_
  refine x1.attr rfl ?_
  have tt:=k σ3 (nt.tr n13)
  rw[List.map_append] at tt;exact tt
 cases acc with
 | nil =>
  refine o1.attr rfl ?_
  refine o1.attr rfl ?_
  refine o1.attr rfl ?_
  refine o1.attr rfl ?_
  refine wR fun en σ2 n2 hen oe=>?_
  refine oe.meth rfl ?_
  exact fin ⟨p,o1,o2⟩ σ2 en n2 ⟨p,oe,o2.n n2⟩
 | cons y acc =>
  refine o1.attr rfl ?_
  refine o1.attr rfl ?_
  refine o1.attr rfl ?_
  refine wR fun en σ2 n2 hen oe=>?_
  refine oe.meth rfl ?_
  exact fin ⟨p,o1,o2⟩ σ2 en n2 ⟨p,oe,o2.n n2⟩
end
end
section
variable {K:Calls}
section
variable {σ:Sto} {D:Dk} {left:Option Int} {con:Con} {n:Nat} {Q:QV} {X:QX} {i:Fin 4} {a s p kl:Addr} {rs:List Rec}
theorem qH {f:Rec→Bool} (l:List Rec) (x:Rec):(l++[x]).filter f=l.filter f++(if f x then [x] else []):=by
 refine er (List.filter_append _ _) ?_;cases e:f x <;> simp[e]
noncomputable def expI (kl:Addr) (σ2:Sto) (b:Int) (w:Bool) (dn:List Rec) (σ':Sto):Prop:=∀ G:Prop,(∀ ks,Fr (·=kl) σ2 σ'→ku σ' ks (dn.filter (kY b w))→σ'.get kl=some (.list (ks.map .ref))→G)→G
noncomputable def K1X (rl:Addr) (σ4:Sto) (dn:List Rec) (σ':Sto):Prop:=∀ G:Prop,(Fr (·=rl) σ4 σ'→σ'.get rl=some (.list ((KJ dn).map (V.bytes∘yJ)))→G)→G
theorem k1q {b:Int} {w:Bool} (ra:k2l σ D a) (h:kq σ D left con) (nt:uq con) (lg:Jm con i rs)
  (k:∀ j l con' σ',kJ D σ j σ'→kq σ' (D.w j) l con'→(left=none→l=none)→((con'=con∧Kw rs b w=rs)∨con'=con.put (i,false) (some (Ka (Kw rs b w))))→Jm con' i (Kw rs b w)→Q (.int ((rs.length:Int)-(Kw rs b w).length)) σ')
  (kx:∀ e j l con' σ',left≠none→kJ D σ j σ'→kq σ' (D.w j) l con'→K1y con' i rs→qO e σ'→X e σ') :
  K.C (n+7) kL [.ref a,.str (nmT i),.int b,Jg w] σ Q X:=by
 have l2:=lg.len
 have ti:=nt.tidy i
 refine kj Qy [some (.ref a),some (.str (nmT i)),some (.int b),some (Jg w),none,none,none,none,none] rfl rfl ?_
 refine fun kl hkl=>?_
 have n1:New σ (σ.upd kl (.list [])):=Fr.refl.new hkl
 have gk1:(σ.upd kl (.list [])).get kl=some (.list []):=kb
 generalize σ.upd kl (.list [])=σ1 at n1 gk1 ⊢
 refine (ra.nw n1).ref.meth rfl ?_
 refine Wm (ra.nw n1).ref (h.n n1) ti lg fun s as σ2 n2 hs g en=>?_
 have el:=en.len
 have n12:=n1.tr n2
 have gk2:=n2.g gk1
 have sk:s≠kl:=fun e=>hs (e▸Sto.has_of gk1)
 refine Kj g (ky (by refine er (List.length_map _) ?_;lia)) ?_
 refine k04 (g:=some s) (fun (dn:List Rec) (o:Option V)=>[some (.ref a),some (.str (nmT i)),some (.int b),some (Jg w),some (.ref kl),some (.int ((dn.length:Int)-(dn.filter (kY b w)).length)),o,none,none])
  (expI kl σ2 b w) (fun dn σ' i=>i _ fun z9 f z9 z9=>f.unt sk (Sto.has_of g)) (fun dn r t y e o σ' ii x1 K k z9=>?_) (fun o σ' ii=>?_) none (fun G g=>g [] .refl rfl gk2) en
 ·refine ii _ fun ks f ek gk=>?_
  have lk:ks.length≤100:=by
   have y1:=ek.len
   have y2:=congrArg List.length e
   have y3:=List.length_filter_le (kY b w) dn
   rw[List.length_append] at y2;lia
  refine k0F gk lk x1 (fun z σ'' n''=>?_) fun z σ'' n''=>?_
  ·refine k (some (.ref y)) _ _ ?_ (fun G g=>g ks (f.tn n'') ?_ (n''.g gk)) fun z9 z9=>.n n''
   ·rw[qH,z,List.length_append]
    show [_,_,_,_,_,some (V.int ((dn.length:Int)-(dn.filter (kY b w)).length+1)),_,_,_]=[_,_,_,_,_,some (V.int (((dn.length+1:Nat):Int)-((dn.filter (kY b w)++[]).length:Nat))),_,_,_]
    refine er (List.append_nil _) ?_;rw[show (((dn.length+1:Nat):Int)-((dn.filter (kY b w)).length:Nat))=(dn.length:Int)-(dn.filter (kY b w)).length+1 by lia]
   ·rw[qH,z];exact (List.append_nil (dn.filter (kY b w))).symm▸ek.n n''
  ·refine k (some (.ref y)) _ _ ?_ (fun G g=>g (ks++[y]) ((f.tn n'').set (.inl rfl)) ?_ kb) fun z9 z9 x=>(x.n n'').updL (n''.g gk)
   ·rw[qH,z,List.length_append,List.length_append]
    show [_,_,_,_,_,some (V.int ((dn.length:Int)-(dn.filter (kY b w)).length)),_,_,_]=[_,_,_,_,_,some (V.int (((dn.length+1:Nat):Int)-(((dn.filter (kY b w)).length+1:Nat):Nat))),_,_,_]
    refine er (show (((dn.length+1:Nat):Int)-(((dn.filter (kY b w)).length+1:Nat):Nat))=(dn.length:Int)-(dn.filter (kY b w)).length by lia) ?_;rfl
   ·rw[qH,z];exact ku.updL (n''.g gk) ((ek.n n'').snoc (x1.n n''))
 ·refine ii _ fun ks f ek gk=>?_
  ·skip
   have fl:=List.length_filter_le (kY b w) rs
   have n0:New σ σ':=n12.trans f fun a e=>.inr (e▸hkl)
   have r0:=ra.nw n0
   have h0:=h.n n0
   refine Ku (b:=decide ((0:Int)<(rs.length:Int)-(rs.filter (kY b w)).length)) (fun z=>?_) (fun z=>?_)
   ·have z':=of_decide_eq_true z
    have ex:Kw rs b w=KJ (rs.filter (kY b w)):=if_neg (by lia)
    have fm:∀ r∈rs.filter (kY b w),Ji r.m:=fun r m=>lg.msgs r (List.mem_filter.1 m).1
    obtain ⟨rm,rn⟩:=Uu fm
    refine fun rl hrl=>?_
    have n3:New σ' (σ'.upd rl (.list [])):=Fr.refl.new hrl
    have gr3:(σ'.upd rl (.list [])).get rl=some (.list []):=kb
    have rk:rl≠kl:=QT hrl gk
    generalize σ'.upd rl (.list [])=σ3 at n3 gr3 ⊢
    refine (r0.nw n3).ref.attr rfl ?_
    refine Ys fun σ4 n4=>?_
    have n34:=n3.tr n4
    have gk4:=n34.g gk
    have kl':=ek.len
    refine Kj gk4 (ky (by refine er (List.length_map _) ?_;lia)) ?_
    refine k04 (g:=some kl) (fun (dn:List Rec) (o:Option V)=>[some (.ref a),some (.str (nmT i)),some (.int b),some (Jg w),some (.ref kl),some (.int ((rs.length:Int)-(rs.filter (kY b w)).length)),o,some (.ref rl),some (.bytes (jj (Ua (KJ dn))))])
     (K1X rl σ4) (fun dn σ' i=>i _ fun f z9=>f.unt (fun e=>rk e.symm) (Sto.has_of gk4)) (fun dn r t y e o σ6 ii x1 K k z9=>?_) (fun o σ6 ii=>?_) _ (fun G g=>g .refl (n4.g gr3)) (ek.n n34)
    ·refine ii _ fun f gr=>?_
     have dl:(KJ dn).length≤100:=by
      have y2:=congrArg List.length e
      rw[List.length_append] at y2
      refine er ((Uu fun r m=>fm r (by rw[e];exact List.mem_append_left _ m)).2) ?_;lia
     have hry:rl≠y:=by
      refine x11 x1 ?_;clear x1;intro z9 zn1 z9;obtain ⟨_,o1,_⟩:=zn1
      exact fun q=>by rw[q,o1] at gr;cases gr
     refine k3v (n:=n+3) (fm r (by refine er e ?_;exact List.mem_append_right _ List.mem_cons_self)) gr dl x1 hry fun σ'' n''=>?_
     refine k (some (.ref y)) _ _ ?_ (fun G g=>g ((f.tn n'').set (.inl rfl)) (by refine er (wl _ _) ?_;exact kb)) fun z9 z9 x=>(x.n n'').updL (n''.g gr)
     refine er (wl _ _) ?_;refine er (Zq _ _) ?_;refine er ((K1u _ _).2.1) ?_;rfl
    ·refine ii _ fun f gr=>?_
     ·skip
      have n06:New σ σ6:=n0.tr (n34.trans f fun a e=>.inr (e▸hrl))
      have em:kR [] ((KJ (rs.filter (kY b w))).map yJ)=Ka (KJ (rs.filter (kY b w))):=(yN _).trans List.flatMap_def.symm
      have al:=Jr rm
      have hne:con (i,false)≠none:=fun q=>by
       rcases lg.is with ⟨_,e⟩ | ⟨t,e,_⟩
       ·exact absurd z' (by refine er e ?_;show ¬ (0:Int)<((0:Nat):Int)-((0:Nat):Int);decide)
       ·rw[q] at e;injection e
      refine (ra.nw n06).ref.meth rfl ?_
      refine k6l (ts:=(KJ (rs.filter (kY b w))).map yJ) (by refine er gr ?_;refine er List.map_map ?_;rfl) (ky (by refine er em ?_;lia)) ?_
      refine er em ?_
      refine Uz (ra.nw n06).ref (h.n n06) (nt.locks i) (fun e=>?_) (fun e l=>?_) (by lia) (fun j l σ7 a7 h7 e7=>?_) fun e j l o σ' z a' h' c=>?_
      ·subst e;exact Classical.byContradiction fun q=>hne (nt.way q)
      ·exact ti hne e l
      ·have lg7:Jm (con.put (i,false) (some (Ka (KJ (rs.filter (kY b w)))))) i (KJ (rs.filter (kY b w))):=.put_all rm (by lia)
       have t:=k j l _ σ7 ((kJ.new n06).trans a7) h7 e7 (.inr (by exact er ex rfl)) (by refine er ex ?_;exact lg7)
       rw[ex,rn] at t
       exact t
      ·exact kx e j l _ σ' z ((kJ.new n06).trans a') h' ⟨lg.of_same (Con.put_ne k67),Zu (fun e=>ti hne e) fun q=>by refine er q ?_;decide⟩ c
   ·have z':=of_decide_eq_false z
    have ex:Kw rs b w=rs:=if_pos (by lia)
    have t:=k D.inn left con σ' (.new n0) h0 id (.inl ⟨rfl,ex⟩) (by refine er ex ?_;exact lg)
    rw[ex,Int.sub_self] at t
    refine er (show (rs.length:Int)-(rs.filter (kY b w)).length=0 by lia) ?_
    exact t
end
end
section
variable {K:Calls}
noncomputable abbrev ye:V:=.str [99,101,108,108,115]
noncomputable abbrev WY:V:=.str [109,105,120,101,100]
noncomputable abbrev UT:V:=.str [116,117,114,110]
noncomputable def Kt (σ:Sto) (dk cl:Addr) (t:Nat):Prop:=∃ (cs:List Int) (m:Int) (k:Nat),σ.get dk=some (.dict [(ye,.ref cl),(WY,.int m),(UT,.int (k:Nat))])∧σ.get cl=some (.list (cs.map .int))∧0≤m∧m<2147483587∧k≤t∧cs.length≤24∧dk≠cl
theorem k9C {a:Int} {b:Nat} (h:b≤1000):Builtin.divisionGoesByPylong a b=false:=by
 have e:(decide ((if ((b:Int)==0)=true then 0 else (b:Int).natAbs.log2/30+1)>300))=false:=by
  refine decide_eq_false ?_
  split
  ·decide
  ·have:(b:Int).natAbs.log2≤10:=by
    rcases Nat.eq_zero_or_pos b with z | z
    ·subst z;decide
    ·refine er (Int.natAbs_natCast _) ?_
     have:=(Nat.log2_lt (n:=b) (k:=10) (by lia)).2 (by lia)
     lia
   lia
 show (decide _&&_)=false
 exact (congrArg (·&&_) e).trans rfl
theorem K1b {x b:Int} (h:0≤x∧x<b) (hb:b≤18446744073709551616):x.natAbs<2^64:=by
 obtain ⟨k,rfl⟩:=Int.eq_ofNat_of_zero_le h.1
 exact Int.ofNat_lt.1 (Int.lt_of_lt_of_le h.2 hb)
theorem toN {x:Int} {b:Nat} (h:0≤x∧x<b):x.toNat<b:=(Int.toNat_lt h.1).2 h.2
theorem k2T {a:Int} {b:Nat} (h:0<b):0≤a.fmod (b:Nat)∧a.fmod (b:Nat)<b:=by
 have hb:(0:Int)<(b:Nat):=Int.natCast_pos.2 h
 exact ⟨Int.fmod_nonneg_of_pos a hb,Int.fmod_lt_of_pos a hb⟩
section
variable {σ:Sto} {n:Nat} {Q:QV} {X:QX} {dk cl:Addr} {t:Nat}
abbrev DW (dk cl:Addr):Addr→Prop:=fun a=>a=dk∨a=cl
theorem Kt.le {t':Nat} (h:Kt σ dk cl t) (l:t≤t'):Kt σ dk cl t':=by
 refine x35 h ?_;clear h;intro cs m k h1 h2 h3 h4 h5 h6
 exact ⟨cs,m,k,h1,h2,h3,h4,Nat.le_trans h5 l,h6⟩
theorem Kt.fr {W:Addr→Prop} {σ':Sto} (h:Kt σ dk cl t) (f:Fr W σ σ') (h1:¬ W dk) (h2:¬ W cl):Kt σ' dk cl t:=by
 refine x32 h ?_;clear h;intro cs m k g1 g2 r
 exact ⟨cs,m,k,f.get h1 g1,f.get h2 g2,r⟩
theorem st {call:jH} {init:Addr→Option Addr} {r:List IS} {ρ:Loc} {σ:Sto} {Q:QS} {X:QXS} (h:exs call init r ρ σ Q X):exs call init [] ρ σ (fun o ρ σ=>match o with
  | none=>exs call init r ρ σ Q X
  | some v=>Q (some v) ρ σ) X:=h
theorem k9f {call:jH} {init:Addr→Option Addr} {i:Nat} {r:List IS} {ρ:Loc} {σ:Sto} {Q:QS} {X:QXS} {v:V} (h:exs call init r (ρ.put i v) σ Q X):QM.v (.inl fun v σ=>(fun o ρ σ=>match o with
  | none=>exs call init r ρ σ Q X
  | some v=>Q (some v) ρ σ) none (ρ.put i v) σ) v σ:=h
theorem K13 {a b:Int} {σ:Sto} {Q:QV} (q:Q (.int (a+b)) σ):QM.v (.inl fun y σ=>k0s .add (.int a) y σ Q) (.int b) σ:=q
theorem JL {b:Nat} (h:Kt σ dk cl t) (ht:t≤100000) (hb:0<b) (hb2:b≤1000) (k:∀ r σ',r<b→Fr (DW dk cl) σ σ'→Kt σ' dk cl (t+1)→Q (.int (r:Nat)) σ'):K.C (n+1) kw [.ref dk,.int (b:Nat)] σ Q X:=by
 refine x36 h ?_;clear h;intro cs m tn g1 g2 m1 m2 h5 h6 h7
 refine kj zb [some (.ref dk),some (.int (b:Nat)),none,none] rfl rfl ?_
 refine jX (k:=.str [116,117,114,110]) g1 rfl ?_
 refine Qn (k:=.str [116,117,114,110]) g1 (Nat.le_of_ble_eq_true rfl) ?_
 have f1:Fr (DW dk cl) σ (σ.upd dk (.dict [(ye,.ref cl),(WY,.int m),(UT,.int ((tn:Nat)+1))])):=Fr.refl.set (.inl (.inl rfl))
 have a1:(σ.upd dk (.dict [(ye,.ref cl),(WY,.int m),(UT,.int ((tn:Nat)+1))])).get dk=some (.dict [(ye,.ref cl),(WY,.int m),(UT,.int ((tn+1:Nat)))]):=kb
 have a2:=KO (c':=.dict [(ye,.ref cl),(WY,.int m),(UT,.int ((tn:Nat)+1))]) h7 g2
 show exs (K.C n) kU _ _ (σ.upd dk (.dict [(ye,.ref cl),(WY,.int m),(UT,.int ((tn:Nat)+1))])) _ _
 generalize σ.upd dk (.dict [(ye,.ref cl),(WY,.int m),(UT,.int ((tn:Nat)+1))])=σ1 at f1 a1 a2 ⊢
 have fin:∀ (fig:Int) (cs':List Int) (o3:Option V) σ',Fr (DW dk cl) σ σ'→σ'.get dk=some (.dict [(ye,.ref cl),(WY,.int m),(UT,.int ((tn+1:Nat)))])→σ'.get cl=some (.list (cs'.map .int))→cs'.length≤24 →
   exs (K.C n) kU [.asg 2 (.bin .mod (.bin .mul (.bin .mod (.loc 2) (.cint 2147483629)) (.cint 40692)) (.cint 2147483647)),
    .asg 2 (.bin .mod (.bin .add (.bin .mul (.loc 2) (.loc 2)) (.cint 1657)) (.cint 2147483587)),
    .ret (.bin .mod (.bin .fdiv (.bin .mod (.bin .mul (.loc 2) (.cint 39373)) (.cint 2147483579)) (.cint 64)) (.loc 1))] [some (.ref dk),some (.int (b:Nat)),some (.int fig),o3] σ' (fun o z9 σ=>Q (o.getD .none) σ) (fun z9 e σ=>X e σ):=fun fig cs' o3 σ' f' b1 b2 b3=>by
  have z1:0≤fig.fmod 2147483629∧fig.fmod 2147483629<2147483629:=k2T (b:=2147483629) (by decide)
  refine And.intro (by decide) ?_
  refine And.intro (Wh (K1b z1 (by decide)) (by decide)) ?_
  refine And.intro (by decide) ?_
  show exs (K.C n) kU _ _ _ _ _
  have z2:0≤(fig.fmod 2147483629*40692).fmod 2147483647∧(fig.fmod 2147483629*40692).fmod 2147483647<2147483647:=k2T (b:=2147483647) (by decide)
  generalize (fig.fmod 2147483629*40692).fmod 2147483647=f2 at z2 ⊢
  refine And.intro (Wh (K1b z2 (by decide)) (K1b z2 (by decide))) ?_
  refine And.intro (by decide) ?_
  show exs (K.C n) kU _ _ _ _ _
  have z3:0≤(f2*f2+1657).fmod 2147483587∧(f2*f2+1657).fmod 2147483587<2147483587:=k2T (b:=2147483587) (by decide)
  generalize (f2*f2+1657).fmod 2147483587=f3 at z3 ⊢
  refine And.intro (Wh (K1b z3 (by decide)) (by decide)) ?_
  refine And.intro (by decide) ?_
  refine And.intro (by decide) ?_
  refine And.intro (k9C (b:=64) (by decide)) ?_
  refine And.intro (Int.ne_of_gt (Int.natCast_pos.2 hb)) ?_
  have z4:=k2T (a:=((f3*39373).fmod 2147483579).fdiv 64) (b:=b) hb
  have t':=k (((f3*39373).fmod 2147483579).fdiv 64 |>.fmod (b:Nat)).toNat σ' (toN z4) f' ⟨cs',m,tn+1,b1,b2,m1,m2,Nat.succ_le_succ h5,b3,h7⟩
  rw[Int.toNat_of_nonneg z4.1] at t'
  exact t'
 refine jX (k:=.str [109,105,120,101,100]) a1 rfl ?_
 refine jX (k:=.str [116,117,114,110]) a1 rfl ?_
 have tl:tn+1≤100001:=Nat.succ_le_succ (Nat.le_trans h5 ht)
 refine And.intro (Wh (by decide) (Nat.lt_of_le_of_lt tl (by decide))) ?_
 refine jX (k:=.str [116,117,114,110]) a1 rfl ?_
 refine And.intro (Wh (Nat.lt_of_le_of_lt (Nat.mul_le_mul_left 61613 tl) (by decide)) (Nat.lt_of_le_of_lt tl (by decide))) ?_
 show exs (K.C n) kU _ (Loc.put _ 2 (.int (m+61613*((tn+1:Nat):Int)*((tn+1:Nat):Int)))) σ1 _ _
 generalize m+61613*((tn+1:Nat):Int)*((tn+1:Nat):Int)=fig
 refine jX (k:=.str [99,101,108,108,115]) a1 rfl ?_
 refine fun r hr=>?_
 have n2:New σ1 (σ1.upd r (.list [])):=Fr.refl.new hr
 refine QJ (n2.g a2) kb ?_
 have b1:=n2.g a1
 have b2:=n2.g a2
 have f2:=f1.tn n2
 generalize σ1.upd r (.list [])=σ2 at n2 b1 b2 f2 ⊢
 rcases List.eq_nil_or_concat cs with rfl | ⟨cs',c,e⟩
 ·exact fin _ [] none σ2 f2 b1 b2 (by decide)
 ·rw[List.concat_eq_append] at e
  subst e
  rw[List.length_append] at h6
  replace h6:cs'.length+1≤24:=h6
  rw[List.map_append] at b2
  refine k07 (b := !((cs'++[c]).map V.int).isEmpty) (by refine er List.map_append ?_;cases cs' <;> rfl) ?_
  refine jX (k:=.str [99,101,108,108,115]) b1 rfl ?_
  refine kK (Ja b2).2 ?_
  refine k7u b2 (Yh (by refine er (List.length_map _) ?_;lia)) ?_
  have f3:=f2.set (a:=cl) (c:=.list (cs'.map .int)) (.inl (.inr rfl))
  have c1:=KO (c':=.list (cs'.map .int)) (fun q=>h7 q.symm) b1
  have c2:(σ2.upd cl (.list (cs'.map .int))).get cl=some (.list (cs'.map .int)):=kb
  generalize σ2.upd cl (.list (cs'.map .int))=σ3 at f3 c1 c2 ⊢
  refine Ku (b:=decide ((1000000:Int)≤c)) (fun z=>?_) (fun z=>?_)
  ·refine jX (k:=.str [99,101,108,108,115]) c1 rfl ?_
   refine kK (Ja c2).1 ?_
   refine And.intro (Int.ne_of_gt (Int.natCast_pos.2 hb)) ?_
   refine And.intro (k9C hb2) ?_
   refine jn c2 (Yh (by refine er (List.length_map _) ?_;lia)) ?_
   refine And.intro (Int.ne_of_gt (Int.natCast_pos.2 hb)) ?_
   have z4:=k2T (a:=c) (b:=b) hb
   have t':=k (c.fmod (b:Nat)).toNat (σ3.upd cl (.list ((cs'++[c.fdiv (b:Nat)]).map .int))) (toN z4) (f3.set (.inl (.inr rfl))) ⟨_,m,tn+1,KO (fun q=>h7 q.symm) c1,kb,m1,m2,Nat.succ_le_succ h5,by refine er List.length_append ?_;exact h6,h7⟩
   rw[Int.toNat_of_nonneg z4.1,List.map_append] at t'
   exact t'
  ·refine And.intro (by decide) ?_
   refine K13 ?_
   refine k9f ?_
   refine st ?_
   exact fin _ cs' (some (.int c)) σ3 f3 c1 c2 (Nat.le_of_succ_le h6)
end
end
section
variable {K:Calls}
noncomputable def Jd (i j:Fin 4):Bool:=(i==1&&j==2)||(i==2&&j==1)
theorem uV:∀ i j:Fin 4,((nmT i).length+1≤100)∧(if !(nmT i==nmT j) then (if (nmT i).take ((nmT j).length+1)==nmT j++[47] then true else (nmT j).take ((nmT i).length+1)==nmT i++[47]) else false)=Jd i j:=by decide +kernel
section
variable {σ:Sto} {n:Nat} {Q:QV} {X:QX} {dk cl s:Addr} {t:Nat}
theorem uv {xs:List V} (h:Kt σ dk cl t) (ht:t≤100000) (g:σ.get s=some (.list xs)) (ns:¬ DW dk cl s) (l0:0<xs.length) (l1:xs.length≤1000)
  (k:∀ (r:Nat) v σ',xs[r]?=some v→Fr (DW dk cl) σ σ'→Kt σ' dk cl (t+1)→Q v σ'):K.C (n+2) Kq [.ref dk,.ref s] σ Q X:=by
 refine kj yV [some (.ref dk),some (.ref s)] rfl rfl ?_
 refine jN g (ky (by lia)) ?_
 refine JL h ht l0 l1 fun r σ1 hr f1 h1=>?_
 refine YF (f1.get ns g) (by unfold KI;lia) (p:=r) (by unfold qA;refine er (if_pos (Int.natCast_nonneg _)) (er (if_pos (by lia)) ?_);rfl) ?_
 refine er (List.getD_eq_getElem?_getD) (er (List.getElem?_eq_getElem hr) ?_)
 exact k r _ σ1 (List.getElem?_eq_getElem hr) f1 h1
theorem k5P {o:Fin 6}:uS K (n+1) KM [.int (o.val:Nat)] (.bytes (jj o)):=fun {σ Q X} k=>by
 refine kj zZ [some (.int (o.val:Nat))] rfl rfl ?_
 refine Ku (b:=((o.val:Nat):Int)==0) (fun z=>?_) (fun z=>?_)
 ·refine fun r hr=>?_
  refine qr (is:=[0,0,0,0]) kb (by decide) (by decide) ?_
  have t:=k _ (Fr.refl.new hr:New σ (σ.upd r (.list [.int 0,.int 0,.int 0,.int 0])))
  unfold jj at t;rw[if_pos (Int.ofNat.inj (eq_of_beq z))] at t;exact t
 ·refine fun r hr=>?_
  have hl:=o.isLt
  refine qr (is:=[0,7,1,(o.val:Nat)]) kb (show 4≤kt by decide) (fun i m=>?_) ?_
  ·rcases List.mem_cons.1 m with m | m
   ·lia
   ·rcases List.mem_cons.1 m with m | m
    ·lia
    ·rcases List.mem_cons.1 m with m | m
     ·lia
     ·rcases List.mem_cons.1 m with m | m
      ·omega
      ·cases m
  have t:=k _ (Fr.refl.new hr:New σ (σ.upd r (.list [.int 0,.int 7,.int 1,.int (o.val:Nat)])))
  unfold jj at t;rw[if_neg fun q=>ne_of_beq_false z (by refine er q ?_;rfl)] at t;exact t
noncomputable abbrev K0z:List V:=[.str (nmT 0),.str (nmT 1),.str (nmT 2),.str (nmT 3)]
theorem k1g (k:∀ r σ',New σ σ'→¬ σ.has r→σ'.get r=some (.list K0z)→Q (.ref r) σ'):K.C (n+1) KG [] σ Q X:=by
 refine kj Yn [] rfl rfl ?_
 refine fun r hr=>?_
 exact k r _ (Fr.refl.new hr) hr kb
theorem k34 {α:Type} {f:α→V} {l:List α} {r:Nat} {v:V} (h:(l.map f)[r]?=some v):∃ x∈l,v=f x:=by
 rw[List.getElem?_map] at h
 cases e:l[r]? with
 | none=>rw[e] at h;injection h
 | some x=>rw[e] at h;injection h with h;subst h;exact ⟨x,List.mem_of_getElem? e,rfl⟩
theorem k5d {r:Nat} {v:V} (h:K0z[r]?=some v):∃ i:Fin 4,v=.str (nmT i):=by
 refine x11 (k34 (l:=([0,1,2,3]:List (Fin 4))) (f:=fun j=>V.str (nmT j)) h) fun j z9 e=>?_
 exact ⟨j,e⟩
theorem k6J {i j:Fin 4}:uS K (n+1) Jb [.str (nmT i),.str (nmT j)] (.bool (Jd i j)):=fun {σ Q X} k=>by
 obtain ⟨li,e⟩:=uV i j
 have lj:=(uV j i).1
 have t:=k σ .refl
 rw[← e] at t
 refine kj qS [some (.str (nmT i)),some (.str (nmT j))] rfl rfl ?_
 refine And.intro rfl ?_
 refine Ku (b := !(nmT i==nmT j)) (fun z=>?_) (fun z=>?_)
 ·rw[if_pos z] at t
  refine And.intro (ky (by lia)) ?_
  refine kK (jk (by unfold KI;lia)) ?_
  have ct:∀ (x y:Fin 4),JX (nmT x) none (some (((nmT y).length:Nat)+1))=(nmT x).take ((nmT y).length+1):=by decide +kernel
  refine UM (by lia) (ct i j) ?_
  refine And.intro (ky (by show _+1≤_;lia)) ?_
  refine Ku (b:=(nmT i).take ((nmT j).length+1)==nmT j++[47]) (fun y=>?_) (fun y=>?_)
  ·rw[if_pos y] at t;refine er y ?_;exact t
  ·rw[if_neg (by refine er y ?_;exact Bool.false_ne_true)] at t
   refine And.intro (ky (by lia)) ?_
   refine kK (jk (by unfold KI;lia)) ?_
   refine UM (by lia) (ct j i) ?_
   exact And.intro (ky (by show _+1≤_;lia)) t
 ·rw[if_neg (by refine er z ?_;exact Bool.false_ne_true)] at t
  refine er z ?_;exact t
theorem k7R (c:Nat):([32,9,10]:Tx).contains c=jg c:=by
 unfold jg
 cases h1:c==32 <;> cases h2:c==9 <;> cases h3:c==10 <;> simp only[List.contains,List.elem,h1,h2,h3,Bool.or_false,Bool.or_true,Bool.false_or]
noncomputable def k7B (l:List Tx):Nat:=(l.map List.length).sum
theorem QB:∀ (s w:Tx),k7B (Ko w s)+(Ko w s).length≤w.length+2*s.length+1
 | [],w=>by
  rw[uk]
  by_cases e:w=[]
  ·rw[if_pos e];exact Nat.zero_le _
  ·rw[if_neg e];exact Nat.le_refl _
 | c::r,w=>by
  have z0:=QB r []
  have z1:=QB r (w++[c])
  rw[List.length_append] at z1
  replace z1:k7B (Ko (w++[c]) r)+(Ko (w++[c]) r).length≤w.length+1+2*r.length+1:=z1
  replace z0:k7B (Ko [] r)+(Ko [] r).length≤0+2*r.length+1:=z0
  refine er (Jj _ _ _) ?_
  show _≤w.length+2*(r.length+1)+1
  by_cases e:jg c=true
  ·rw[if_pos e]
   by_cases y:w=[]
   ·rw[if_pos y];lia
   ·rw[if_neg y]
    show w.length+k7B (Ko [] r)+((Ko [] r).length+1)≤_
    lia
  ·rw[if_neg e];lia
theorem Zs:∀ l:List Tx,(kR [32] l).length≤k7B l+l.length
 | []=>Nat.zero_le _
 | [x]=>by show x.length≤x.length+0+1;lia
 | x::y::r=>by
  have z:=Zs (y::r)
  show (x++[32]++kR [32] (y::r)).length≤x.length+k7B (y::r)+((y::r).length+1)
  refine er List.length_append (er List.length_append ?_)
  show x.length+1+_≤_;lia
theorem wD:∀ {s w:Tx} {x:Tx} {c:Nat},x∈Ko w s→c∈x→c∈w∨(c∈s∧jg c=false)
 | [],w,x,c,h,m=>by
  rw[uk] at h
  by_cases e:w=[]
  ·rw[if_pos e] at h;exact nomatch h
  ·rw[if_neg e] at h;rw[List.mem_singleton.1 h] at m;exact .inl m
 | d::r,w,x,c,h,m=>by
  rw[Jj] at h
  have up:(c∈([]:Tx)∨(c∈r∧jg c=false))→c∈w∨(c∈d::r∧jg c=false):=fun q=>q.elim (fun q=>nomatch q) fun q=>.inr ⟨List.mem_cons_of_mem _ q.1,q.2⟩
  by_cases e:jg d=true
  ·rw[if_pos e] at h
   by_cases y:w=[]
   ·rw[if_pos y] at h;exact up (wD h m)
   ·rw[if_neg y] at h
    rcases List.mem_cons.1 h with h | h
    ·rw[h] at m;exact .inl m
    ·exact up (wD h m)
  ·rw[if_neg e] at h
   rcases wD h m with q | q
   ·rcases List.mem_append.1 q with q | q
    ·exact .inl q
    ·refine er (List.mem_singleton.1 q) ?_;exact .inr ⟨List.mem_cons_self,by cases z:jg d with | true=>exact absurd z e | false=>rfl⟩
   ·exact .inr ⟨List.mem_cons_of_mem _ q.1,q.2⟩
theorem k1W {c:Nat}:∀ {l:List Tx},c∈kR [32] l→c=32∨∃ x∈l,c∈x
 | [],h=>nomatch h
 | [x],h=>.inr ⟨x,List.mem_cons_self,h⟩
 | x::y::r,h=>by
  replace h:c∈x++[32]++kR [32] (y::r):=h
  rcases List.mem_append.1 h with h | h
  ·rcases List.mem_append.1 h with h | h
   ·exact .inr ⟨x,List.mem_cons_self,h⟩
   ·exact .inl (List.mem_singleton.1 h)
  ·exact (k1W h).imp id fun ⟨z,m,q⟩=>⟨z,List.mem_cons_of_mem _ m,q⟩
theorem k5y {m:Tx} (l:m.length≤40) (h:∀ c∈m,Kb c=true):Ji (kR [32] (jd m)):=by
 have z1:=QB m []
 have z2:=Zs (jd m)
 refine ⟨?_,fun c mc=>?_⟩
 ·have:k7B (jd m)+(jd m).length≤0+2*m.length+1:=z1
  lia
 ·rcases k1W mc with rfl | ⟨x,mx,mc⟩
  ·decide
  ·rcases wD mx mc with q | ⟨q,w⟩
   ·exact nomatch q
   ·have p:=h c q
    unfold Kb at p
    unfold jg at w
    rw[Bool.or_assoc,Bool.or_assoc] at p
    rw[Bool.or_assoc] at w
    rw[← Bool.or_assoc (c==9),← Bool.or_assoc (c==32),w,Bool.false_or,Bool.and_eq_true] at p
    have p1:=of_decide_eq_true p.1
    have p2:=of_decide_eq_true p.2
    lia
theorem Yg:∀ q w:Tx,Ko w (q++[32])=Ko w q
 | [],w=>by
  show (if jg 32=true then (if w=[] then Ko [] [] else w::Ko [] []) else _)=(if w=[] then [] else [w])
  rw[if_pos (show jg 32=true from rfl)];rfl
 | c::q,w=>by
  show Ko w (c::(q++[32]))=_
  refine er (Jj _ _ _) ?_;refine er (Jj _ _ _) ?_;refine er (Yg q []) ?_;rw[Yg q (w++[c])]
noncomputable def K0X (m:Tx) (r:Addr) (σ:Sto) (_ q:Tx) (x:Tx×Option V) (σ':Sto):Prop:=∀ G:Prop,(∀ dn:List Tx,New σ σ'→σ'.get r=some (.list (dn.map .str))→dn.length+q.length≤1001→x.1.length+q.length≤1001→jd m=dn++Ko x.1 q→(q=[]→x.1=[])→G)→G
theorem k4y {m:Tx} (l:m.length≤1000):uS K (n+1) JR [.str m] (.str (kR [32] (jd m))):=fun {σ Q X} k=>by
 refine kj QR [some (.str m),none,none,none] rfl rfl ?_
 refine fun r hr=>?_
 refine And.intro (ky (by show _+1≤_;lia)) ?_
 refine k3s (g:=none) (l:=m++[32]) (fun (x:Tx×Option V)=>[some (.str m),some (.ref r),some (.str x.1),x.2]) (K0X m r σ) (fun z9 z9 z9 z9 z9=>trivial) (fun p c q e x σ' i K k z9=>i _ fun dn nw g l1 l2 ew z=>?_) (fun x σ' i=>i _ fun dn nw g l1 l2 ew z=>?_)
  ([],_) fun G w=>w [] (Fr.refl.new hr) kb (by refine er List.length_append ?_;show 0+(m.length+1)≤_;lia) (by refine er List.length_append ?_;show 0+(m.length+1)≤_;lia) (Yg m []).symm fun e=>absurd (congrArg List.length e) (by refine er List.length_append ?_;exact Nat.succ_ne_zero _)
 ·replace l1:dn.length+(q.length+1)≤1001:=l1
  replace l2:x.1.length+(q.length+1)≤1001:=l2
  refine Ku (b := !(([32,9,10]:Tx).contains c)) (fun z=>?_) (fun z=>?_)
  ·rw[k7R] at z
   have z':jg c=false:=by cases y:jg c with | true=>rw[y] at z;cases z | false=>rfl
   refine And.intro (ky (by show _+1≤_;lia)) ?_
   refine k (x.1++[c],_) _ _ rfl fun G w=>w dn nw g (by lia) (by refine er List.length_append ?_;show _+1+_≤_;lia) ?_ fun q0=>?_
   ·refine er ew ?_;refine er (Jj _ _ _) ?_;rw[if_neg (by rw[z'];exact Bool.false_ne_true)]
   ·subst q0
    have y:=(List.append_inj' e rfl).2
    injection y with y _;rw[← y] at z';exact nomatch z'
  ·rw[k7R] at z
   have z':jg c=true:=by cases y:jg c with | true=>rfl | false=>rw[y] at z;injection z
   refine And.intro rfl ?_
   obtain ⟨w,o⟩:=x
   cases w with
   | nil=>exact k ([],some (.str [c])) _ _ rfl fun G w=>w dn nw g (by lia) (by show 0+_≤_;lia) (by refine er ew ?_;refine er (Jj _ _ _) ?_;rw[if_pos z',if_pos rfl]) fun z9=>rfl
   | cons d w =>
    refine kK (Ja g).1 ?_
    refine jn g (Yh (by refine er (List.length_map _) ?_;lia)) ?_
    refine k ([],some (.str [c])) _ _ rfl fun G u=>u (dn++[d::w]) (nw.set (.inr hr)) (by refine er List.map_append ?_;exact kb) (by refine er List.length_append ?_;show _+1+_≤_;lia) (by show 0+_≤_;lia) ?_ fun z9=>rfl
    refine er ew ?_;refine er (Jj _ _ _) ?_;rw[if_pos z',if_neg (fun q=>nomatch q),List.append_assoc];rfl
 ·rw[z rfl] at ew
  rw[show Ko [] []=[] from rfl,List.append_nil] at ew
  rw[ew] at k
  have z1:=QB m []
  have z2:=Zs (jd m)
  replace z1:k7B (jd m)+(jd m).length≤0+2*m.length+1:=z1
  rw[ew] at z1 z2
  exact Qz g (ky (by show _+1≤_;lia)) (k σ' nw)
end
end
section
variable {K:Calls}
noncomputable abbrev k1c:List Tx:=[[99,111,109,109,105,116],[32],[32,32],[9],[10],[97,58,32,98],[120]]
theorem k3H:∀ s∈k1c,s.length≤6∧∀ c∈s,Kb c=true:=by decide
theorem k1R:∀ {l:List Tx},(∀ s∈l,s.length≤6)→l.flatten.length≤6*l.length
 | [],_=>Nat.zero_le _
 | x::r,h=>by
  have:=h x List.mem_cons_self
  have:=k1R (l:=r) fun s m=>h s (List.mem_cons_of_mem _ m)
  show (x++r.flatten).length≤6*(r.length+1)
  refine er List.length_append ?_;lia
noncomputable abbrev k4t (o n:Fin 6) (w:Fin 40) (z:Fin 3) (m:Tx):V:=.tup [.bytes (jj o),.bytes (jj n),k57 w,.bytes (Ju z),.str m]
section
variable {σ:Sto} {n:Nat} {Q:QV} {X:QX} {dk cl s:Addr} {t:Nat}
theorem Ul {r:Nat}:(Kf 0 (r:Nat) 1).length=r:=by
 unfold Kf
 rw[List.length_map,List.length_range]
 split <;> lia
theorem DW.fresh {W:Addr→Prop} {σ':Sto} (h:Kt σ dk cl t) (f:Fr W σ σ') {r:Addr} (hr:¬ σ'.has r):¬ DW dk cl r:=fun e=>by
 refine x32 h ?_;clear h;intro cs m k g1 g2 z9
 rcases e with e | e
 ·exact hr (e▸f.pre_has (Sto.has_of g1))
 ·exact hr (e▸f.pre_has (Sto.has_of g2))
noncomputable def rowI (dk cl:Addr) (σ8:Sto) (t:Nat) (dn:List Nat) (acc:List V) (σ':Sto):Prop:=∀ G:Prop,(∀ ms:List Tx,Fr (DW dk cl) σ8 σ'→Kt σ' dk cl (t+5+1+dn.length)→acc=ms.map .str→(∀ s∈ms,s.length≤6∧∀ c∈s,Kb c=true)→ms.length≤dn.length→G)→G
theorem K1h (h:Kt σ dk cl t) (ht:t≤90000) (k:∀ o o2 w z m σ',m.length≤40→(∀ c∈m,Kb c=true)→Fr (DW dk cl) σ σ'→Kt σ' dk cl (t+20)→Q (k4t o o2 w z m) σ'):K.C (n+3) WF [.ref dk] σ Q X:=by
 refine kj Zi [some (.ref dk),none,none,none,none,none] rfl rfl ?_
 refine JL (b:=3) h (by lia) (by decide) (by decide) fun r1 σ1 h1 f1 d1=>?_
 refine k5P (o:=⟨r1,by lia⟩) fun σ2 n2=>?_
 refine JL (b:=5) (d1.fr n2 id id) (by lia) (by decide) (by decide) fun r3 σ3 h3 f3 d3=>?_
 refine k5P (o:=⟨1+r3,by lia⟩) fun σ4 n4=>?_
 refine JL (b:=40) (d3.fr n4 id id) (by lia) (by decide) (by decide) fun r5 σ5 h5 f5 d5=>?_
 refine fun s hs=>?_
 have f05:Fr (DW dk cl) σ σ5:=(((f1.tn n2).tr f3).tn n4).tr f5
 have n6:New σ5 (σ5.upd s (.list [.bytes [43,48,48,48,48],.bytes [45,48,49,51,48],.bytes [43,49,52,48,48]])):=Fr.refl.new hs
 refine uv (d5.fr n6 id id) (by lia) kb (DW.fresh h f05 hs) (by decide) (by decide) fun r7 v7 σ7 e7 f7 d7=>?_
 refine x11 (k34 (l:=([0,1,2]:List (Fin 3))) (f:=fun z=>V.bytes (Ju z)) e7) fun z z9 ez=>?_
 subst ez
 have f07:=(f05.tn n6).tr f7
 refine JL (b:=5) d7 (by lia) (by decide) (by decide) fun r8 σ8 h8 f8 d8=>?_
 have f08:=f07.tr f8
 refine kN (x:=Kf 0 (r8:Nat) 1) (if_pos (by lia)) ?_
 have rl:(List.range (if (0:Int)<(r8:Nat) then (((r8:Nat)-0-1:Int)/1+1).toNat else 0)).length=r8:=(List.length_map ..).symm.trans (Ul (r:=r8))
 refine k1Y (g:=none) (rowI dk cl σ8 t) (fun z9 z9 z9 z9=>trivial) (ky (er rl (Nat.le_trans (Nat.le_of_lt h8) (by decide)))) (fun dn x q e acc σ' i KK k z9=>i _ fun ms f d e1 e2 e3=>?_) (fun acc σ' i u hu=>i _ fun ms f d e1 e2 e3=>?_) fun G w=>w [] .refl (d8.le (by show _≤t+5+1+0;lia)) rfl (fun s m=>nomatch m) (Nat.le_refl _)
 ·have l4:dn.length+1≤4:=by
   have y:=rl.symm.trans (congrArg List.length e)
   rw[List.length_append] at y
   have y2:dn.length+1≤r8:=er y (Nat.add_le_add_left (Nat.succ_le_succ (Nat.zero_le _)) _)
   exact Nat.le_of_lt_succ (Nat.lt_of_le_of_lt y2 h8)
  refine fun u hu=>?_
  have nu:New σ' (σ'.upd u (.list (k1c.map .str))):=Fr.refl.new hu
  refine uv (xs:=k1c.map .str) (d.fr nu id id) (by lia) kb (DW.fresh d8 f hu) (by decide) (by decide) fun r9 v9 σ9 e9 f9 d9=>?_
  refine x11 (k34 e9) fun x9 m9 zr2=>?_;subst zr2
  refine k _ _ fun G w=>w (ms++[x9]) ((f.tn nu).tr f9) (d9.le (by refine er List.length_append ?_;exact Nat.le_refl _)) (by refine er e1 (er List.map_append ?_);rfl) (fun s m=>(List.mem_append.1 m).elim (e2 s) fun m=>by refine er (List.mem_singleton.1 m) ?_;exact k3H x9 m9) (by refine er List.length_append (er List.length_append ?_);exact Nat.succ_le_succ e3)
 ·have nu:New σ' (σ'.upd u (.list acc)):=Fr.refl.new hu
  rw[rl] at d e3
  have fl:=k1R fun s m=>(e2 s m).1
  refine Qz (ts:=ms) (by refine er e1 ?_;exact kb) (ky (by refine er (yN _) ?_;show _+0≤_;lia)) ?_
  refine er (yN _) ?_
  exact k ⟨r1,by lia⟩ ⟨1+r3,by lia⟩ ⟨r5,h5⟩ z ms.flatten _ (by lia) (fun c m=>by refine x11 (List.mem_flatten.1 m) fun s ms' cs=>?_;exact (e2 s ms').2 c cs) ((f08.tr f).tn nu) ((d.fr nu id id).le (by lia))
theorem k7s {o o2:Fin 6} {w:Fin 40} {z:Fin 3} {m:Tx} (l:m.length≤1000):uS K (n+2) kX [k4t o o2 w z m] (Kg ⟨o,o2,w,z,kR [32] (jd m)⟩):=fun {σ Q X} k=>by
 refine kj YC [some (k4t o o2 w z m)] rfl rfl ?_
 exact k4y l k
end
section
variable {σ:Sto} {D:Dk} {left:Option Int} {con:Con} {n:Nat} {Q:QV} {X:QX} {i:Fin 4} {rs:List Rec}
theorem k0L {v1 v2 v3 v4:V} (k:∀ a d σ',New σ σ'→¬ σ.has a→¬ σ.has d→Mut kO σ' a d [(k99,v1),(k7x,v2),(K0d,v3),(K0a,v4)]→Q (.ref a) σ'):∀ a d,¬ σ.has a→¬ σ.has d→a≠d →
  K.C (n+1) ja [.ref a,v1,v2,v3,v4] ((σ.upd d (.dict [])).upd a (.inst kO d)) (fun r σ=>r=.none∧Q (.ref a) σ) X:=fun a d ha hd ne=>by
 obtain ⟨o,nw⟩:=Mut.start (C:=kO) ha hd ne
 refine kj jO [some (.ref a),some v1,some v2,some v3,some v4] rfl rfl ?_
 refine o.set rfl fun o=>?_
 refine o.set rfl fun o=>?_
 refine o.set rfl fun o=>?_
 refine o.set rfl fun o=>?_
 exact ⟨rfl,k a d _ ((((nw.set (.inr hd)).set (.inr hd)).set (.inr hd)).set (.inr hd)) ha hd o⟩
theorem ux {o o2:Fin 6} {w:Fin 40} {z:Fin 3} {m:Tx} (h:kq σ D left con) (nt:uq con) (hl:left≠none→clr con i=con) (lg:Jm con i rs) (l:rs.length≤99) (lm:m.length≤40) (hm:∀ c∈m,Kb c=true)
  (k1:∀ j l σ',kJ D σ j σ'→kq σ' (D.w j) l ((clr con i).put (i,false) (some (Ka (rs++[⟨o,o2,w,z,kR [32] (jd m)⟩]))))→(left=none→l=none)→Q (.bool true) σ')
  (k2:∀ j l con' σ',left≠none→kJ D σ j σ'→kq σ' (D.w j) l con'→K1y con' i rs→Q (.bool false) σ'):K.C (n+8) jL [.ref D.d,.str (nmT i),k4t o o2 w z m] σ Q X:=by
 refine kj zV [some (.ref D.d),some (.str (nmT i)),some (k4t o o2 w z m),none] rfl rfl ?_
 refine k0L fun p d σ1 n1 hp hd o1=>?_
 refine Ym (h.n n1) fun a σ2 n2 ha ra=>?_
 have n12:=n1.tr n2
 have h2:=h.n n12
 refine ra.ref.meth rfl ?_
 have o2':=o1.fr n2 id id
 refine K1I (r:=⟨o,o2,w,z,kR [32] (jd m)⟩) ra h2 nt hl lg l ⟨⟨d,o2'⟩,fun e=>hp (h.has e),fun d' kv q e=>?_⟩ ⟨hm,by lia⟩ rfl (k5y lm hm) (fun j l σ' a' h' e'=>?_) fun e j l con' σ' z' a' h' lf c=>?_
 ·have:=q.1.symm.trans o2'.1
  cases this
  exact hd (h.has e)
 ·exact k1 j l σ' ((kJ.new n12).trans a') h' e'
 ·exact And.intro c (k2 j l con' σ' z' ((kJ.new n12).trans a') h' lf)
end
end
section
variable {K:Calls}
theorem k9T (r s:Rec):∃ b,QL (Kg r) (Kg s)=some b∧(r=s→b=true) :=
 ⟨_,rfl,fun e=>by subst e;simp⟩
theorem k3x:∀ rs ts:List Rec,rs.length=ts.length→∃ b,wo (rs.map Kg) (ts.map Kg)=some b∧(rs=ts→b=true)
 | [],[],_=>⟨true,rfl,fun z9=>rfl⟩
 | r::rs,t::ts,h=>by
  exact x11 (k9T r t) fun b e k=>x11 (k3x rs ts (Nat.succ.inj h)) fun c f g=>⟨b&&c,k54 e f,fun q=>by refine er (k (List.cons.inj q).1) (er (g (List.cons.inj q).2) ?_);rfl⟩
section
variable {σ:Sto} {a b:Addr} {rs ts:List Rec}
theorem Ww (h:σ.get a=some (.list (rs.map Kg))) (h2:σ.get b=some (.list (ts.map Kg))):∃ c,eqV (.ref a) (.ref b) σ=some c∧(rs=ts→c=true):=by
 rw[k3J h h2];refine er (List.length_map _) ?_;refine er (List.length_map _) ?_
 by_cases e:rs.length=ts.length
 ·rw[if_pos e];exact k3x rs ts e
 ·rw[if_neg e];exact ⟨false,rfl,fun q=>absurd (congrArg List.length q) e⟩
theorem k9g {R:Bool→Prop} (h:σ.get a=some (.list (rs.map Kg))) (h2:σ.get b=some (.list (rs.map Kg))) (q:R true):UB (.ref b) σ=true∧kT (eqV (.ref a) (.ref b) σ) R:=by
 refine x11 (Ww h h2) fun c e k=>?_
 exact ⟨Yq h2,kN e (by refine er (k rfl) ?_;exact q)⟩
end
section
variable {σ:Sto} {n:Nat} {Q:QV} {X:QX} {lr:Addr} {rs:List Rec}
theorem k5e {r:Rec} {b:Int} {w:Bool}:(if decide (b≤((1000+r.w.val:Nat):Int)) then true else (w&&k21 r))=kY b w r:=by
 unfold kY
 by_cases z:b≤((1000+r.w.val:Nat):Int)
 ·refine er (if_pos (decide_eq_true z)) (er (decide_eq_false (by lia)) ?_);rfl
 ·refine er (if_neg (by refine er (decide_eq_false z) ?_;exact Bool.false_ne_true)) (er (decide_eq_true (by lia)) ?_)
  cases w&&k21 r <;> rfl
theorem K1W {l:List Rec} {x:Rec} (h:l≠[]):lk l x=⟨Ua l,x.n,x.w,x.z,x.m⟩:=by cases l with | nil=>exact absurd rfl h | cons _ _=>rfl
theorem k4I {l:List Rec} (y:Rec):KJ (y::l)≠[]:=fun q=>by
 have e:=k31 (l:=y::l) (acc:=[]) 
 have z:∀ (l acc:List Rec),((l.foldl (fun acc x=>acc++[lk acc x]) acc).length=acc.length+l.length):=fun l=>by
  induction l with
  | nil=>exact fun z9=>rfl
  | cons x l ih=>exact fun acc=>(ih _).trans (by refine er List.length_append ?_;show acc.length+1+l.length=acc.length+(l.length+1);lia)
 have t:=z (y::l) []
 rw[show (y::l).foldl (fun acc x=>acc++[lk acc x]) []=KJ (y::l) from rfl,q] at t
 exact absurd t (by show ¬ 0=0+(l.length+1);lia)
noncomputable def lkI (f:Addr) (σ4:Sto) (y:Rec) (dn:List Rec) (σ':Sto):Prop:=∀ G:Prop,(Fr (·=f) σ4 σ'→σ'.get f=some (.list ((KJ (y::dn)).map Kg))→G)→G
theorem ZX {b:Int} {w:Bool} (g:σ.get lr=some (.list (rs.map Kg))) (l:rs.length≤100) (k:∀ v σ',New σ σ'→(v=lr∨¬ σ.has v)→σ'.get v=some (.list ((Kw rs b w).map Kg))→Q (.ref v) σ'):K.C (n+1) jR [.ref lr,.int b,.bool w] σ Q X:=by
 refine kj QP [some (.ref lr),some (.int b),some (.bool w),none,none,none] rfl rfl ?_
 refine Kj g (ky (by refine er (List.length_map _) ?_;lia)) ?_
 refine qd (g:=some lr) (f:=Kg) (kY b w) (fun z9 e=>by injection e with e;refine er (Eq.symm e) ?_;exact Sto.has_of g) (ky (by lia)) (fun y z9 σ' nw KK k1' k2'=>?_) (fun σ1 s nw hs=>?_)
 ·obtain ⟨ol,oe⟩:=k1l y.n
  have kc:=k5e (r:=y) (b:=b) (w:=w)
  have k1:kY b w y=true→KK (some (Kg y)) σ':=fun z=>k1' z _ .refl
  have k2:kY b w y=false→KK none σ':=fun z=>k2' z _ .refl
  refine Ku (b:=decide (b≤((1000+y.w.val:Nat):Int))) (fun z=>?_) (fun z=>?_)
  ·rw[if_pos z] at kc
   exact k1 kc.symm
  ·rw[if_neg (by refine er z ?_;exact Bool.false_ne_true)] at kc
   cases w with
   | false=>exact k2 kc.symm
   | true =>
    refine ZS (p:=3) rfl (by lia) (by lia) ?_
    refine And.intro (by decide) ?_
    refine Ku (b:=(((jj y.n).getD 3 0).toNat:Int).fmod 2==0) (fun x=>?_) (fun x=>?_)
    ·exact k1 (kc.symm.trans (oe.symm.trans x))
    ·exact k2 (kc.symm.trans (oe.symm.trans x))
 ·have fl:=List.length_filter_le (kY b w) rs
  have n2:New σ (σ1.upd s (.list ((rs.filter (kY b w)).map Kg))):=nw.new hs
  have gs:(σ1.upd s (.list ((rs.filter (kY b w)).map Kg))).get s=some (.list ((rs.filter (kY b w)).map Kg)):=kb
  generalize σ1.upd s (.list ((rs.filter (kY b w)).map Kg))=σ2 at n2 gs ⊢
  refine jN gs (ky (by refine er (List.length_map _) ?_;lia)) ?_
  refine jN (n2.g g) (ky (by refine er (List.length_map _) ?_;lia)) ?_
  refine Ku (b:=((((rs.filter (kY b w)).map Kg).length:Nat):Int)==((rs.map Kg).length:Nat)) (fun z=>?_) (fun z=>?_)
  ·have z':=Int.ofNat.inj (eq_of_beq z)
   rw[List.length_map,List.length_map] at z'
   exact k lr σ2 n2 (.inl rfl) (by unfold Kw;rw[if_pos z'];exact n2.g g)
  ·have z':¬ (rs.filter (kY b w)).length=rs.length:=fun q=>ne_of_beq_false z (by refine er (List.length_map _) ?_;rw[List.length_map,q])
   have ex:Kw rs b w=KJ (rs.filter (kY b w)):=if_neg z'
   rw[ex] at k
   generalize rs.filter (kY b w)=ks at gs fl k ⊢
   refine wZ (ys:=(ks.take 1).map Kg) gs (ky (by refine er (List.length_map _) ?_;lia)) (k0z.trans (List.map_take ..).symm) fun f hf=>?_
   have n3:New σ2 (σ2.upd f (.list ((ks.take 1).map Kg))):=Fr.refl.new hf
   have gf:(σ2.upd f (.list ((ks.take 1).map Kg))).get f=some (.list ((ks.take 1).map Kg)):=kb
   have hf0:=n2.nhas hf
   have gs3:=n3.g gs
   generalize σ2.upd f (.list ((ks.take 1).map Kg))=σ3 at n3 gf gs3 ⊢
   refine wZ (ys:=(ks.drop 1).map Kg) gs3 (ky (by refine er (List.length_map _) ?_;lia)) (by
    cases ks with
    | nil=>rfl
    | cons y r=>exact Wg [Kg y]) fun t ht=>?_
   have n4:New σ3 (σ3.upd t (.list ((ks.drop 1).map Kg))):=Fr.refl.new ht
   have gt:(σ3.upd t (.list ((ks.drop 1).map Kg))).get t=some (.list ((ks.drop 1).map Kg)):=kb
   have tf:=QT ht gf
   have gf4:=n4.g gf
   generalize σ3.upd t (.list ((ks.drop 1).map Kg))=σ4 at n4 gt gf4 ⊢
   have n04:=(n2.tr n3).tr n4
   refine Kj gt (ky (by rw[List.length_map,List.length_drop];lia)) ?_
   have fin:∀ σ',Fr (·=f) σ4 σ'→σ'.get f=some (.list ((KJ ks).map Kg))→Q (.ref f) σ':=fun σ' ff gg=>k f σ' (n04.trans ff fun a e=>.inr (e▸hf0)) (.inr hf0) gg
   cases ks with
   | nil =>
    refine And.intro ((Fr.refl (W:=fun _=>False)).u gt) ?_
    exact fin σ4 .refl gf4
   | cons y ks =>
    refine wq (g:=some t) (fun (_:List Rec) (o:Option V)=>[some (.ref lr),some (.int b),some (.bool w),some (.ref s),some (.ref f),o]) (lkI f σ4 y)
     (fun z9 σ' i=>i _ fun ff z9=>ff.unt tf (Sto.has_of gt)) (fun dn x q e o σ' i K k z9=>i _ fun ff gg=>?_) (fun o σ' i=>i _ fun ff gg=>fin σ' ff gg) _ fun G w=>w .refl gf4
    have ln:(KJ (y::dn)).length≤100:=by
     have y1:=congrArg List.length e
     rw[List.length_append] at y1
     have y2:∀ (l acc:List Rec),((l.foldl (fun acc x=>acc++[lk acc x]) acc).length=acc.length+l.length):=fun l=>by
      induction l with
      | nil=>exact fun z9=>rfl
      | cons x l ih=>exact fun acc=>(ih _).trans (by refine er List.length_append ?_;show acc.length+1+l.length=acc.length+(l.length+1);lia)
     have y3:=y2 (y::dn) []
     replace y3:(KJ (y::dn)).length=0+(dn.length+1):=y3
     replace fl:ks.length+1≤rs.length:=fl
     lia
    have ne:=k4I (l:=dn) y
    rcases List.eq_nil_or_concat (KJ (y::dn)) with en | ⟨l',z,en⟩
    ·exact absurd en ne
    ·rw[List.concat_eq_append] at en
     refine kK (Ja gg).1 ?_
     have gg':=gg
     rw[en,List.map_append] at gg'
     refine YF gg' (by unfold KI;decide) (p:=(l'.map Kg).length) (by
      show (if (0:Int) ≤ -1 then _ else if (0:Int) ≤ -1+((l'.map Kg++[z].map Kg).length:Nat) then some (-1+((l'.map Kg++[z].map Kg).length:Nat):Int).toNat else none)=_
      rw[if_neg (by decide)];refine er List.length_append ?_;refine er (show ([z].map Kg).length=1 from rfl) ?_;rw[if_pos (by lia)]
      exact congrArg some (by lia)) ?_
     refine er (show (l'.map Kg++[z].map Kg).getD (l'.map Kg).length V.none=Kg z by rw[List.getD_eq_getElem?_getD,List.getElem?_append_right (Nat.le_refl _),Nat.sub_self];rfl) ?_
     refine And.intro (by decide) ?_
     refine And.intro (show (1:Int)≤(7:Nat) by decide) ?_
     refine And.intro (show 7≤kt by decide) ?_
     refine And.intro (show 1+6≤kt by decide) ?_
     refine jn gg (Yh (by refine er (List.length_map _) ?_;lia)) ?_
     refine k _ _ _ rfl fun G w=>w (ff.set (.inl rfl)) ?_
     refine er (Eq.symm List.cons_append) ?_;refine er (wl _ _) ?_;rw[K1W ne];refine er List.map_append ?_;refine er en ?_;rw[Zq]
     exact kb
end
end
section
variable {K:Calls}
theorem k1U {α:Type} {l:List α} {k:Nat}:JX l none (some (k:Nat))=l.take k:=k0z
section
variable {σ:Sto} {n:Nat} {Q:QV} {X:QX} {sc:Addr} {ns:List Int}
noncomputable def mixI (σ3:Sto) (x:Int×Option V) (σ':Sto):Prop:=∀ G:Prop,(New σ3 σ'→0≤x.1→x.1<2147483587→G)→G
theorem K0o (g:σ.get sc=some (.list (ns.map .int))) (l:ns.length≤63) (k:∀ dk cl σ',New σ σ'→¬ σ.has dk→¬ σ.has cl→Kt σ' dk cl 0→Q (.ref dk) σ'):K.C (n+1) wg [.ref sc] σ Q X:=by
 refine kj Yz [some (.ref sc),none,none,none] rfl rfl ?_
 refine wZ (ys:=(ns.take 24).map .int) g (ky (by refine er (List.length_map _) ?_;lia)) ((k1U (k:=24)).trans List.map_take.symm) fun s hs=>?_
 have n1:New σ (σ.upd s (.list ((ns.take 24).map .int))):=Fr.refl.new hs
 have g1:(σ.upd s (.list ((ns.take 24).map .int))).get s=some (.list ((ns.take 24).map .int)):=kb
 generalize σ.upd s (.list ((ns.take 24).map .int))=σ1 at n1 g1 ⊢
 have l1:(ns.take 24).length≤24:=List.length_take_le _ _
 refine Kj g1 (ky (by refine er (List.length_map _) ?_;lia)) ?_
 refine wX (ns.take 24) V.int (fun a e=>by injection e with e;subst e;exact Sto.has_of g1) (ky (by lia)) (fun x z9 σ z9 KK k=>k σ .refl) fun σ2 c n2 hc=>?_
 have n3:New σ2 (σ2.upd c (.list ((ns.take 24).map .int))):=Fr.refl.new hc
 have g3:(σ2.upd c (.list ((ns.take 24).map .int))).get c=some (.list ((ns.take 24).map .int)):=kb
 generalize σ2.upd c (.list ((ns.take 24).map .int))=σ3 at n3 g3 ⊢
 have n03:=(n1.tr n2).tr n3
 refine Kj g3 (ky (by refine er (List.length_map _) ?_;lia)) ?_
 refine JM (g:=some c) (fun (x:Int×Option V)=>[some (.ref sc),some (.ref c),some (.int x.1),x.2]) (mixI σ3) (fun z9 σ' i=>i _ fun n z9 z9=>n.u g3) (fun v z9 x σ' i K k z9=>i _ fun n m1 m2=>?_) (fun x σ' i=>i _ fun n m1 m2=>?_) (4646,_) fun G w=>w .refl (by decide) (by decide)
 ·refine And.intro (Wh (by lia) (by decide)) ?_
  refine And.intro (by decide) ?_
  refine And.intro (by decide) ?_
  have z:0≤(x.1*48271+v.fmod 2147483629+4646).fmod 2147483587∧(x.1*48271+v.fmod 2147483629+4646).fmod 2147483587<2147483587:=k2T (b:=2147483587) (by decide)
  exact k (_,_) _ _ rfl fun G w=>w n z.1 z.2
 ·refine k7O (n.g g3) (ky (by refine er (List.length_map _) ?_;lia)) fun cl hcl=>?_
  refine er (Eq.symm List.map_reverse) ?_
  refine fun dk hdk=>?_
  have n4:New σ' (σ'.upd cl (.list ((ns.take 24).reverse.map .int))):=Fr.refl.new hcl
  have ne:=QT hdk (kb (σ:=σ') (a:=cl) (c:=.list ((ns.take 24).reverse.map .int)))
  exact k dk cl _ (((n03.tr n).tr n4).new hdk) (((n03.tr n).tr n4).nhas hdk) ((n03.tr n).nhas hcl) ⟨(ns.take 24).reverse,x.1,0,kb,KO ne kb,m1,m2,Nat.le_refl _,by refine er List.length_reverse ?_;exact l1,ne⟩
end
noncomputable abbrev Mod:=Fin 4→Option (List Rec)
noncomputable def Mod.put (M:Mod) (i:Fin 4) (v:Option (List Rec)):Mod:=fun j=>if j=i then v else M j
noncomputable abbrev K1a:List (Fin 4):=[0,1,2,3]
noncomputable def K0E:List Key:=K1a.map fun i=>.str (nmT i)
noncomputable def k3p (M:Mod) (adr:Fin 4→Addr) (k:Key):Option V:=match K1a.find? fun i=>Key.str (nmT i)=k with
 | some i=>(M i).map fun z9=>.ref (adr i)
 | none=>none
theorem k7p:∀ i:Fin 4,K1a.find? (fun j=>Key.str (nmT j)=Key.str (nmT i))=some i:=by decide +kernel
theorem Qm (M:Mod) (adr:Fin 4→Addr) (i:Fin 4):k3p M adr (.str (nmT i))=(M i).map fun z9=>.ref (adr i):=by
 unfold k3p;exact er (k7p i) rfl
theorem ZF {M:Mod} {adr:Fin 4→Addr} {k:Key} (h:∀ i,k≠.str (nmT i)):k3p M adr k=none:=by
 unfold k3p
 rw[List.find?_eq_none.2 fun p z9=>by
  intro q;exact h p (of_decide_eq_true q).symm]
theorem ud {M:Mod} {adr:Fin 4→Addr} {i:Fin 4} {v:Option (List Rec)} {b:Addr} (k:Key):(if k=.str (nmT i) then v.map fun z9=>V.ref b else k3p M adr k)=k3p (M.put i v) (fun j=>if j=i then b else adr j) k:=by
 by_cases e:k=.str (nmT i)
 ·rw[if_pos e];refine er e ?_;refine er (Qm _ _ _) ?_;unfold Mod.put;rw[if_pos rfl,if_pos rfl]
 ·refine er (if_neg e) ?_
  by_cases z:∃ q,k=.str (nmT q)
  ·obtain ⟨q,rfl⟩:=z
   have nq:q≠i:=fun y=>e (by refine er y ?_;rfl)
   refine er (Qm _ _ _) ?_;refine er (Qm _ _ _) ?_;unfold Mod.put;rw[if_neg nq,if_neg nq]
  ·exact er (ZF fun q y=>z ⟨q,y⟩) (er (ZF fun q y=>z ⟨q,y⟩) rfl)
def LW (dk cl md:Addr) (D:Dk):Addr→Prop:=fun a=>a=dk∨a=cl∨a=md∨D.own a
noncomputable def QI (con:Con) (i:Fin 4) (N:Nat):Option (List Rec)→Prop
 | none=>con (i,false)=none
 | some rs=>(∀ r∈rs,Ji r.m)∧rs.length≤N∧∃ t,con (i,false)=some (Ka rs++t)∧10∉t∧t.length≤20*N
structure LS (σ:Sto) (dk cl md:Addr) (D:Dk) (con:Con) (M:Mod) (t N:Nat):Prop where
 deck:Kt σ dk cl t
 tab:σ.get Wt=some (.tab wa k4p)∧¬ D.own Wt
 disk:kq σ D none con
 mod:∃ kv adr,σ.get md=some (.dict kv)∧KV K0E kv (k3p M adr)∧∀ i rs,M i=some rs→σ.get (adr i)=some (.list (rs.map Kg))∧¬ LW dk cl md D (adr i)
 neat:uq con
 logs:∀ i,QI con i N (M i)
 sep:¬ D.own dk∧¬ D.own cl∧¬ D.own md∧md≠dk∧md≠cl∧D.d≠dk∧D.d≠cl∧D.d≠md
section
variable {σ σ':Sto} {dk cl md:Addr} {D:Dk} {con:Con} {M:Mod} {t N:Nat} {i:Fin 4}
theorem LS.logIs (L:LS σ dk cl md D con M t N) (hN:N≤100) (i:Fin 4):Jm con i ((M i).getD []):=by
 have l:=L.logs i
 cases e:M i with
 | none=>rw[e] at l;exact ⟨(fun r m=>nomatch m),Nat.zero_le _,.inl ⟨l,rfl⟩⟩
 | some rs =>
  rw[e] at l
  refine x02 l ?_;clear l;intro l1 l2 zz0;refine x12 zz0 fun u l3 l4 l5=>?_
  exact ⟨l1,Nat.le_trans l2 hN,.inr ⟨u,l3,l4,by lia⟩⟩
theorem LS.len (L:LS σ dk cl md D con M t N) (i:Fin 4):((M i).getD []).length≤N:=by
 have l:=L.logs i
 cases e:M i with
 | none=>exact Nat.zero_le _
 | some rs=>rw[e] at l;exact l.2.1
theorem QI.le {N':Nat} {o:Option (List Rec)} (h:QI con i N o) (l:N≤N'):QI con i N' o:=by
 cases o with
 | none=>exact h
 | some rs=>refine x02 h ?_;clear h;intro h1 h2 zz0;refine x12 zz0 fun u h3 h4 h5=>?_;exact ⟨h1,Nat.le_trans h2 l,u,h3,h4,by lia⟩
theorem LS.le {t' N':Nat} (L:LS σ dk cl md D con M t N) (lt:t≤t') (lN:N≤N'):LS σ dk cl md D con M t' N' :=
 { L with deck:=L.deck.le lt,logs:=fun i=>(L.logs i).le lN }
theorem Kt.no_tab {p:Pos} {q:PySem.Str} {a:Addr} (h:Kt σ dk cl t) (g:σ.get a=some (.tab p q)):¬ DW dk cl a:=fun e=>by
 refine x32 h ?_;clear h;intro cs m k g1 g2 z9
 rcases e with e | e
 ·rw[e,g1] at g;cases g
 ·rw[e,g2] at g;cases g
theorem LS.n (L:LS σ dk cl md D con M t N) (f:New σ σ'):LS σ' dk cl md D con M t N :=
 { L with
  deck:=L.deck.fr f id id
  tab:=⟨f.g L.tab.1,L.tab.2⟩
  disk:=L.disk.n f
  mod:=let ⟨kv,adr,g,k,a⟩:=L.mod;⟨kv,adr,f.g g,k,fun i rs e=>⟨f.g (a i rs e).1,(a i rs e).2⟩⟩ }
theorem LS.draw {t':Nat} (L:LS σ dk cl md D con M t N) (f:Fr (DW dk cl) σ σ') (d:Kt σ' dk cl t'):LS σ' dk cl md D con M t' N :=
 { L with
  deck:=d
  tab:=⟨f.get (L.deck.no_tab L.tab.1) L.tab.1,L.tab.2⟩
  disk:=L.disk.frame f (fun a o q=>q.elim (fun q=>L.sep.1 (q▸o)) fun q=>L.sep.2.1 (q▸o)) fun q=>q.elim L.sep.2.2.2.2.2.1 L.sep.2.2.2.2.2.2.1
  mod:=let ⟨kv,adr,g,k,a⟩:=L.mod
   ⟨kv,adr,f.get (fun q=>q.elim L.sep.2.2.2.1 L.sep.2.2.2.2.1) g,k,fun i rs e=>⟨f.get (fun q=>(a i rs e).2 (q.elim .inl fun q=>.inr (.inl q))) (a i rs e).1,(a i rs e).2⟩⟩ }
theorem LW.of_draw (f:Fr (DW dk cl) σ σ'):Fr (LW dk cl md D) σ σ':=f.mono fun z9 q=>.inl (q.elim .inl fun q=>.inr (.inl q))
theorem LS.has (L:LS σ dk cl md D con M t N) {a:Addr} (h:LW dk cl md D a):σ.has a:=by
 refine x32 L.deck fun cs m k g1 g2 z9=>?_
 refine x21 L.mod fun kv adr g z9=>?_
 rcases h with h | h | h | h
 ·exact h▸Sto.has_of g1
 ·exact h▸Sto.has_of g2
 ·exact h▸Sto.has_of g
 ·exact L.disk.has h
theorem LS.deed {j:Addr→Prop} {con':Con} {M':Mod} {N':Nat} (L:LS σ dk cl md D con M t N) (a:kJ D σ j σ') (h:kq σ' (D.w j) none con') (nt:uq con') (hm:∀ i,M' i=M i) (lg:∀ i,QI con' i N' (M' i)):LS σ' dk cl md (D.w j) con' M' t N':=by
 refine x07 L.sep fun s1 s2 s3 s4 s5 s6 s7 s8=>?_
 refine x22 L.mod fun kv adr g k ad=>?_
 have e:M'=M:=funext hm
 subst e
 refine ⟨L.deck.fr a.1 s1 s2,⟨a.1.get L.tab.2 L.tab.1,a.not L.tab.2 (Sto.has_of L.tab.1)⟩,h,⟨kv,adr,a.1.get s3 g,k,fun i rs q=>?_⟩,nt,lg,a.not s1 (L.has (.inl rfl)),a.not s2 (L.has (.inr (.inl rfl))),a.not s3 (Sto.has_of g),s4,s5,s6,s7,s8⟩
 obtain ⟨q1,q2⟩:=ad i rs q
 have n0:¬ D.own (adr i):=fun z=>q2 (.inr (.inr (.inr z)))
 refine ⟨a.1.get n0 q1,fun z=>?_⟩
 rcases z with z | z | z | z
 ·exact q2 (.inl z)
 ·exact q2 (.inr (.inl z))
 ·exact q2 (.inr (.inr (.inl z)))
 ·exact a.not n0 (Sto.has_of q1) z
theorem LW.of_deed (f:Fr D.own σ σ'):Fr (LW dk cl md D) σ σ':=f.mono fun z9 q=>.inl (.inr (.inr (.inr q)))
theorem LS.isFor (L:LS σ dk cl md D con M t N):uj .dget (.ref md) σ=true∧uj .dpop (.ref md) σ=true:=by
 refine x22 L.mod fun kv adr g k ad=>?_
 exact ⟨(jY g).1,(jY g).2.2⟩
theorem K09 {r:Addr} {Q:QV} (L:LS σ dk cl md D con M t N) (hr:¬ σ.has r) (q:∀ lr,(σ.upd r (.list [])).get lr=some (.list (((M i).getD []).map Kg))→¬ LW dk cl md D lr→Q (.ref lr) (σ.upd r (.list []))) :
  jI .dget (.ref md) [.str (nmT i),.ref r] (σ.upd r (.list [])) Q:=by
 refine x22 L.mod fun kv adr g k ad=>?_
 have g':=qv (c':=.list []) hr g
 refine k4G (k:=.str (nmT i)) g' ?_
 rw[k.get];refine er (Qm _ _ _) ?_
 cases e:M i with
 | none=>exact q r (by rw[e];exact kb) fun z=>hr (L.has z)
 | some rs=>exact q (adr i) (by rw[e];exact qv hr (ad i rs e).1) (ad i rs e).2
end
end
section
variable {K:Calls}
noncomputable def k0u (M:Mod) (i:Fin 4):Mod:=if i=1 then M.put 2 none else if i=2 then M.put 1 none else M
noncomputable def k0i (i:Fin 4) (k:Key):Bool:=match K1a.find? fun j=>Key.str (nmT j)=k with
 | some j=>Jd i j
 | none=>false
theorem k3C (i j:Fin 4):k0i i (.str (nmT j))=Jd i j:=by unfold k0i;exact er (k7p j) rfl
theorem k8x:∀ i j k:Fin 4,Jd i j=true→Jd i k=true→j=k:=by decide
theorem k9J:∀ i j:Fin 4,Jd i j=true→(i=1∧j=2)∨(i=2∧j=1):=by decide
theorem Mod.put_self {M:Mod} {i:Fin 4} (h:M i=none):M.put i none=M:=funext fun j=>by
 unfold Mod.put
 by_cases z:j=i
 ·exact er (if_pos z) (er z (er h rfl))
 ·exact er (if_neg z) rfl
theorem k7i {M:Mod} {adr:Fin 4→Addr} {ks:List Key} (nd:ks.Nodup) (mem:∀ k,k∈ks↔k3p M adr k≠none) (i:Fin 4) :
  (ks.filter (k0i i)=[]∧k0u M i=M)∨∃ j rs,Jd i j=true∧ks.filter (k0i i)=[.str (nmT j)]∧M j=some rs∧k0u M i=M.put j none:=by
 have el:∀ k∈ks.filter (k0i i),∃ j rs,k=.str (nmT j)∧Jd i j=true∧M j=some rs:=fun k m=>by
  obtain ⟨m1,m2⟩:=List.mem_filter.1 m
  have q:=(mem k).1 m1
  by_cases z:∃ j,k=.str (nmT j)
  ·obtain ⟨j,rfl⟩:=z
   rw[Qm] at q
   cases e:M j with
   | none=>rw[e] at q;exact absurd rfl q
   | some rs=>exact ⟨j,rs,rfl,k3C i j▸m2,e⟩
  ·exact absurd (ZF fun j e=>z ⟨j,e⟩) q
 have nf:=nd.filter (k0i i)
 have abs:ks.filter (k0i i)=[]→∀ j,Jd i j=true→M j=none:=fun h j hj=>by
  cases e:M j with
  | none=>rfl
  | some rs =>
   have:Key.str (nmT j)∈ks.filter (k0i i):=List.mem_filter.2 ⟨(mem _).2 (by rw[Qm,e];exact fun q=>nomatch q),(k3C i j).trans hj⟩
   rw[h] at this;exact nomatch this
 match h:ks.filter (k0i i),el,nf,abs with
 | [],_,_,abs =>
  refine .inl ⟨rfl,?_⟩
  unfold k0u
  by_cases z:i=1
  ·rw[if_pos z];exact Mod.put_self (abs rfl 2 (by refine er z ?_;decide))
  ·refine er (if_neg z) ?_
   by_cases y:i=2
   ·refine er (if_pos y) ?_;exact Mod.put_self (abs rfl 1 (by refine er y ?_;decide))
   ·exact er (if_neg y) rfl
 | [x],el,_,_ =>
  refine x22 (el x List.mem_cons_self) fun j rs e hj hM=>?_
  refine .inr ⟨j,rs,hj,by exact er e rfl,hM,?_⟩
  rcases k9J i j hj with ⟨rfl,rfl⟩ | ⟨rfl,rfl⟩ <;> rfl
 | x::y::r,el,nf,_ =>
  refine bc fun zg=>?_
  refine x22 (el x List.mem_cons_self) fun j z9 e hj z9=>?_
  refine x22 (el y (List.mem_cons_of_mem _ List.mem_cons_self)) fun j' z9 e' hj' z9=>?_
  have:=k8x i j j' hj hj'
  subst this
  refine zg ?_;clear zg
  exact absurd (by refine er e (er e' ?_);exact List.mem_cons_self) (List.nodup_cons.1 nf).1
theorem k9i {con:Con} {M:Mod} {i k:Fin 4} {N:Nat} (h:QI con k N (M k)):QI (clr con i) k N (k0u M i k):=by
 have go:∀ j:Fin 4,QI (con.put (j,false) none) k N (M.put j none k):=fun j=>by
  unfold Mod.put
  by_cases z:k=j
  ·refine er (if_pos z) (er z ?_);exact Con.put_at
  ·refine er (if_neg z) ?_
   have e:con.put (j,false) none (k,false)=con (k,false):=Con.put_ne fun q=>z (Prod.mk.inj q).1
   cases q:M k with
   | none=>rw[q] at h;exact e.trans h
   | some rs =>
    rw[q] at h
    refine x02 h ?_;clear h;intro h1 h2 zz0;refine x11 zz0 fun u h3 h4=>?_
    exact ⟨h1,h2,u,e.trans h3,h4⟩
 unfold clr k0u
 by_cases z:i=1
 ·refine er (if_pos z) (er (if_pos z) ?_);exact go 2
 ·refine er (if_neg z) (er (if_neg z) ?_)
  by_cases y:i=2
  ·refine er (if_pos y) (er (if_pos y) ?_);exact go 1
  ·refine er (if_neg y) (er (if_neg y) ?_);exact h
theorem k6o {con:Con} {M:Mod} {i:Fin 4} {N:Nat} (h:∀ k,QI con k N (M k)) (e:k0u M i=M):clr con i=con:=by
 have go:∀ j:Fin 4,M.put j none=M→con.put (j,false) none=con:=fun j q=>by
  have z:M j=none:=by refine er (Eq.symm q) ?_;exact if_pos rfl
  have l:=h j
  rw[z] at l
  replace l:con (j,false)=none:=l
  exact er (Eq.symm l) (er Con.put_self rfl)
 unfold clr;unfold k0u at e
 by_cases z:i=1
 ·rw[if_pos z] at e ⊢;exact go 2 e
 ·rw[if_neg z] at e ⊢
  by_cases y:i=2
  ·rw[if_pos y] at e ⊢;exact go 1 e
  ·exact er (if_neg y) rfl
theorem k1J {con:Con} {i:Fin 4} {o:Option By} (nt:uq con):uq ((clr con i).put (i,false) o) where
 locks j:=(Con.put_ne ua).trans ((zk nt i).2.1 j)
 way:=by
  refine x03 (zk nt i) fun f1 f2 f3 f4=>?_
  intro h
  by_cases z:i=1
  ·refine er (Con.put_ne fun q=>absurd ((Prod.mk.inj q).1.trans z) (show ¬ (2:Fin 4)=1 by decide)) ?_;exact f4 z false
  ·by_cases y:i=2
   ·rw[Con.put_ne fun q=>z (Prod.mk.inj q).1.symm,f3 y] at h;exact absurd rfl h
   ·rw[Con.put_ne fun q=>z (Prod.mk.inj q).1.symm] at h
    refine er (Con.put_ne fun q=>y (Prod.mk.inj q).1.symm) ?_
    unfold clr at h ⊢
    rw[if_neg z,if_neg y] at h ⊢
    exact nt.way h
theorem k6Z {con:Con} {M:Mod} {i:Fin 4} {N:Nat} {rs:List Rec} (h:∀ k,QI con k N (M k)) (hm:∀ r∈rs,Ji r.m) (hl:rs.length≤N+1) (k:Fin 4) :
  QI ((clr con i).put (i,false) (some (Ka rs))) k (N+1) ((k0u M i).put i (some rs) k):=by
 unfold Mod.put
 by_cases z:k=i
 ·rw[if_pos z];refine er z ?_
  exact ⟨hm,hl,[],by refine er Con.put_at ?_;refine er (List.append_nil _) ?_;rfl,(fun m=>nomatch m),Nat.zero_le _⟩
 ·rw[if_neg z]
  have c:=(k9i (i:=i) (h k)).le (Nat.le_succ N)
  have e:(clr con i).put (i,false) (some (Ka rs)) (k,false)=clr con i (k,false):=Con.put_ne fun q=>z (Prod.mk.inj q).1
  cases q:k0u M i k with
  | none=>rw[q] at c;exact e.trans c
  | some ts =>
   rw[q] at c
   refine x02 c ?_;clear c;intro h1 h2 zz0;refine x11 zz0 fun u h3 h4=>?_
   exact ⟨h1,h2,u,e.trans h3,h4⟩
section
variable {σ σ':Sto} {w a b:Addr} {rs ts:List Rec}
theorem K04 (g:σ.get w=some (.list [.ref b])) (ha:σ.get a=some (.list (rs.map Kg))) (hb:σ.get b=some (.list (rs.map Kg))):inV (.ref a) (.ref w) σ=some true :=
 x11 (Ww hb ha) fun c e k=>(ZU g).trans ((qc e rfl).trans (by refine er (k rfl) ?_;rfl))
theorem k7r (g:σ.get w=some (.list [.ref b,.ref d])) (ha:σ.get a=some (.list (rs.map Kg))) (hb:σ.get b=some (.list (rs.map Kg))) (hd:σ.get d=some (.list (ts.map Kg))):inV (.ref a) (.ref w) σ=some true :=
 x11 (Ww hb ha) fun c e k=>x11 (Ww hd ha) fun c2 e2 z9=>(ZU g).trans ((qc e (qc e2 rfl)).trans (by refine er (k rfl) ?_;rfl))
end
end
section
variable {K:Calls}
section
variable {σ σ' σ₁ σ₂:Sto} {dk cl md:Addr} {D:Dk} {con:Con} {M:Mod} {t N n:Nat} {i:Fin 4} {Q:QV} {X:QX}
noncomputable def Go (dk cl md:Addr) (D:Dk) (σ:Sto) (j:Addr→Prop) (σ':Sto):Prop:=Fr (fun a=>LW dk cl md D a∨a=Wt) σ σ'∧∀ a,j a→D.inn a∨¬ σ.has a
theorem Go.new (f:New σ σ'):Go dk cl md D σ D.inn σ':=⟨f.fr,fun z9=>.inl⟩
theorem Go.draw (f:Fr (DW dk cl) σ σ'):Go dk cl md D σ D.inn σ':=⟨(LW.of_draw f).mono fun z9 e=>.inl (.inl e),fun z9=>.inl⟩
theorem Go.deed {j:Addr→Prop} (f:kJ D σ j σ'):Go dk cl md D σ j σ':=⟨(LW.of_deed f.1).mono fun z9 e=>.inl (.inl e),f.2⟩
theorem Go.mdl (f:Fr (·=md) σ σ'):Go dk cl md D σ D.inn σ':=⟨f.mono fun z9 e=>.inl (.inl (.inr (.inr (.inl e)))),fun z9=>.inl⟩
theorem Go.tab (f:Fr (·=Wt) σ σ'):Go dk cl md D σ D.inn σ':=⟨f.mono fun z9 e=>.inl (.inr e),fun z9=>.inl⟩
theorem Go.trans {i j:Addr→Prop} (h:Go dk cl md D σ i σ₁) (k:Go dk cl md (D.w i) σ₁ j σ₂):Go dk cl md D σ j σ₂ :=
 ⟨h.1.trans k.1 fun a e=>by
  rcases e with e | e
  ·rcases e with e | e | e | e | e | e | e
   ·exact .inl (.inl (.inl e))
   ·exact .inl (.inl (.inr (.inl e)))
   ·exact .inl (.inl (.inr (.inr (.inl e))))
   ·exact .inl (.inl (.inr (.inr (.inr (.inl e)))))
   ·exact .inl (.inl (.inr (.inr (.inr (.inr (.inl e))))))
   ·exact .inl (.inl (.inr (.inr (.inr (.inr (.inr (.inl e)))))))
   ·exact (h.2 a e).imp (fun e=>.inl (.inr (.inr (.inr (.inr (.inr (.inr e))))))) id
  ·exact .inl (.inr e),fun a e=>(k.2 a e).elim (h.2 a) fun q=>.inr (h.1.nhas q)⟩
theorem k3z {o o2:Fin 6} {w:Fin 40} {z:Fin 3} {m:Tx} {lr s6:Addr} {o9:Option V} {KK:QS} {XX:QXS} {bl:List V} (L:LS σ dk cl md D con M t N) (ht:t≤90000) (hN:N≤50) (hc:clr con i=con)
  (lm:m.length≤40) (hm:∀ c∈m,Kb c=true) (gl:σ.get lr=some (.list (((M i).getD []).map Kg))) (nl:¬ LW dk cl md D lr) (g6:σ.get s6=some (.list bl)) (n6:¬ LW dk cl md D s6)
  (k:∀ o7 o8 σ',Fr (DW dk cl) σ σ'→Kt σ' dk cl (t+1)→KK none [some (.ref dk),some (.ref D.d),some (.ref md),some (.str (nmT i)),some (k4t o o2 w z m),some (.ref lr),some (.ref s6),o7,o8,o9] σ') :
  exs (K.C (n+8)) kU [.asg 7 (.imeth ko KS [99,111,112,121] (.loc 1) []),
   .setA ko [108,101,102,116] (.loc 7) (.callF kw [(.loc 0),(.cint 4)]),
   .asg 8 (.callF jL [(.loc 7),(.loc 3),(.loc 4)]),
   .setA ko [108,101,102,116] (.loc 7) .cnone,
   .ite (.cmp .notin (.callF kP [(.loc 7),(.loc 3)]) (.ife (.loc 8) (.list [(.bin .add (.loc 5) (.list [(.callF kX [(.loc 4)])]))]) (.list [(.loc 5),(.bin .add (.loc 5) (.list [(.callF kX [(.loc 4)])]))]))) [.ret (.cbool false)] []]
   [some (.ref dk),some (.ref D.d),some (.ref md),some (.str (nmT i)),some (k4t o o2 w z m),some (.ref lr),some (.ref s6),none,none,o9] σ KK XX:=by
 have lN:=L.len i
 have lg:=L.logIs (by lia) i
 generalize hrs:(M i).getD []=rs at gl lN lg
 refine L.disk.obj.meth rfl ?_
 refine k7H L.disk fun D2 σ1 n1 ho hd h1=>?_
 have L1:=L.n n1
 have sep2:∀ {a},σ.has a→¬ D2.own a:=fun h e=>ho _ e h
 refine JL (b:=4) L1.deck (by lia) (by decide) (by decide) fun r σ2 hr f2 d2=>?_
 have h2:=h1.frame f2 (fun a o q=>ho a o (L.has (q.elim .inl fun q=>.inr (.inl q)))) fun q=>hd (L.has (q.elim .inl fun q=>.inr (.inl q)))
 refine h2.obj.set rfl fun z9=>?_
 have h3:kq (σ2.upd D2.dd (.dict (KD (JG (some (r:Nat))) D2.fd D2.bd))) D2 (some (r:Nat)) con:=h2.setLeft (some (r:Nat))
 have f3:Fr (DW dk cl) σ (σ2.upd D2.dd (.dict (KD (JG (some (r:Nat))) D2.fd D2.bd))):=(Fr.nt n1 f2).set (.inr (ho _ (.inl rfl)))
 have d3:Kt (σ2.upd D2.dd (.dict (KD (JG (some (r:Nat))) D2.fd D2.bd))) dk cl (t+1):=d2.fr (W:=(·=D2.dd)) (Fr.refl.set (.inl rfl)) (fun q=>sep2 (L.has (.inl rfl)) (.inl q)) fun q=>sep2 (L.has (.inr (.inl rfl))) (.inl q)
 show exs (K.C (n+8)) kU _ _ (σ2.upd D2.dd (.dict (KD (JG (some (r:Nat))) D2.fd D2.bd))) _ _
 generalize σ2.upd D2.dd (.dict (KD (JG (some (r:Nat))) D2.fd D2.bd))=σ3 at h3 f3 d3 ⊢
 have last:∀ (held:Bool) (j:Addr→Prop) (l:Option Int) (con2:Con) σ4,kJ D2 σ3 j σ4→kq σ4 (D2.w j) l con2→k2v con2 i→Jm con2 i (if held then rs++[(⟨o,o2,w,z,kR [32] (jd m)⟩:Rec)] else rs) →
   exs (K.C (n+8)) kU [.setA ko [108,101,102,116] (.loc 7) .cnone,
   .ite (.cmp .notin (.callF kP [(.loc 7),(.loc 3)]) (.ife (.loc 8) (.list [(.bin .add (.loc 5) (.list [(.callF kX [(.loc 4)])]))]) (.list [(.loc 5),(.bin .add (.loc 5) (.list [(.callF kX [(.loc 4)])]))]))) [.ret (.cbool false)] []]
   [some (.ref dk),some (.ref D.d),some (.ref md),some (.str (nmT i)),some (k4t o o2 w z m),some (.ref lr),some (.ref s6),some (.ref D2.d),some (.bool held),o9] σ4 KK XX:=by
  intro held j l con2 σ4 a4 h4 ti lg4
  refine h4.obj.set rfl fun z9=>?_
  have h5:=h4.setLeft none
  have nin:∀ {x},¬ σ.has x→¬ σ3.has x∨¬ σ.has x:=fun h=>.inr h
  have f4:Fr (DW dk cl) σ σ4:=f3.trans a4.1 fun a e=>.inr (ho a e)
  have f5:Fr (DW dk cl) σ (σ4.upd (D2.w j).dd (.dict (KD (JG none) (D2.w j).fd (D2.w j).bd))):=f4.set (.inr (ho _ (.inl rfl)))
  have d4:Kt σ4 dk cl (t+1):=d3.fr a4.1 (sep2 (L.has (.inl rfl))) (sep2 (L.has (.inr (.inl rfl))))
  have d5:Kt (σ4.upd (D2.w j).dd (.dict (KD (JG none) (D2.w j).fd (D2.w j).bd))) dk cl (t+1):=d4.fr (W:=(·=D2.dd)) (Fr.refl.set (.inl rfl)) (fun q=>sep2 (L.has (.inl rfl)) (.inl q)) fun q=>sep2 (L.has (.inr (.inl rfl))) (.inl q)
  show exs (K.C (n+8)) kU _ _ (σ4.upd (D2.w j).dd (.dict (KD (JG none) (D2.w j).fd (D2.w j).bd))) _ _
  generalize σ4.upd (D2.w j).dd (.dict (KD (JG none) (D2.w j).fd (D2.w j).bd))=σ5 at h5 f5 d5 ⊢
  refine k5p (D:=D2.w j) h5 ti lg4 fun a σ6 n6' ha ga=>?_
  have f6:=f5.tn n6'
  have gl6:=f6.get (fun q=>nl (q.elim .inl fun q=>.inr (.inl q))) gl
  have row:∀ {σ':Sto} {R:QV} {XR:QX},New σ6 σ'→(∀ v σ'',New σ6 σ''→¬ σ6.has v→σ''.get v=some (.list ((rs++[(⟨o,o2,w,z,kR [32] (jd m)⟩:Rec)]).map Kg))→R (.ref v) σ'') →
    evM (K.C (n+8)) kU (.bin .add (.loc 5) (.list [(.callF kX [(.loc 4)])])) [some (.ref dk),some (.ref D.d),some (.ref md),some (.str (nmT i)),some (k4t o o2 w z m),some (.ref lr),some (.ref s6),some (.ref D2.d),some (.bool held),o9] σ' (.inl R) XR:=by
   intro σ' R XR nw kk
   refine k7s (by lia) fun σ7 n7=>?_
   refine fun u hu=>?_
   have nu:New σ7 (σ7.upd u (.list [Kg ⟨o,o2,w,z,kR [32] (jd m)⟩])):=Fr.refl.new hu
   have n8:=(nw.tr n7).tr nu
   refine k5x (n8.g gl6) kb (ky (by refine er (List.length_map _) ?_;show _+1≤_;lia)) fun v hv=>?_
   have t':=kk v _ (n8.new hv) (n8.nhas hv) (by refine er List.map_append ?_;exact kb)
   exact t'
  cases held with
  | true =>
   refine row .refl fun v σ7 n7 hv gv=>?_
   refine fun u hu=>?_
   have nu:New σ7 (σ7.upd u (.list [.ref v])):=Fr.refl.new hu
   refine kN (K04 kb (nu.g (n7.g ga)) (nu.g gv)) ?_
   exact k _ _ _ (f6.tn (n7.tr nu)) ((d5.fr n6' id id).fr (n7.tr nu) id id)
  | false =>
   refine row .refl fun v σ7 n7 hv gv=>?_
   refine fun u hu=>?_
   have nu:New σ7 (σ7.upd u (.list [.ref lr,.ref v])):=Fr.refl.new hu
   refine kN (k7r kb (nu.g (n7.g ga)) (nu.g (n7.g gl6)) (nu.g gv)) ?_
   exact k _ _ _ (f6.tn (n7.tr nu)) ((d5.fr n6' id id).fr (n7.tr nu) id id)
 have nt:=L.neat
 refine ux h3 nt (fun z9=>hc) lg (by lia) lm hm (fun j l σ4 a4 h4 z9=>?_) fun j l con' σ4 z9 a4 h4 lf=>?_
 ·refine k9f ?_
  refine last true j l _ σ4 a4 h4 ((k1J nt).tidy i) ?_
  exact .put_all (fun r m'=>(List.mem_append.1 m').elim (lg.msgs r) fun m'=>by refine er (List.mem_singleton.1 m') ?_;exact k5y lm hm) (by refine er List.length_append ?_;show _+1≤_;lia)
 ·refine k9f ?_
  exact last false j l con' σ4 a4 h4 lf.2 lf.1
end
end
section
variable {K:Calls}
section
variable {σ σ':Sto} {dk cl md:Addr} {D:Dk} {con:Con} {M:Mod} {t N n:Nat} {i:Fin 4} {Q:QV} {X:QX}
theorem K2b:∀ i:Fin 4,Key.str (nmT i)∈K0E:=by decide +kernel
theorem k7c {o o2:Fin 6} {w:Fin 40} {z:Fin 3} {m:Tx} {lr s6:Addr} {o7 o8 o9:Option V} {ks:List Key} (L:LS σ dk cl md D con M t N) (hN:N≤50)
  (lm:m.length≤40) (hm:∀ c∈m,Kb c=true) (gl:σ.get lr=some (.list (((M i).getD []).map Kg))) (nl:¬ LW dk cl md D lr) (g6:σ.get s6=some (.list (ks.map Key.v))) (n6:¬ LW dk cl md D s6)
  (hk:(ks=[]∧k0u M i=M)∨∃ j rs,Jd i j=true∧ks=[.str (nmT j)]∧M j=some rs∧k0u M i=M.put j none)
  (k:∀ j con' M' σ',Go dk cl md D σ j σ'→LS σ' dk cl md (D.w j) con' M' t (N+1)→Q (.bool true) σ') :
  exs (K.C (n+8)) kU [.for1 9 (.e (.loc 6)) [.expr (.meth .dpop (.loc 2) [(.loc 9)])],
   .setI (.loc 2) (.loc 3) (.bin .add (.loc 5) (.list [(.callF kX [(.loc 4)])])),
   .ret (.callF jL [(.loc 1),(.loc 3),(.loc 4)])]
   [some (.ref dk),some (.ref D.d),some (.ref md),some (.str (nmT i)),some (k4t o o2 w z m),some (.ref lr),some (.ref s6),o7,o8,o9] σ (fun o z9 σ=>Q (o.getD .none) σ) (fun z9 e σ=>X e σ):=by
 have lN:=L.len i
 have lg:=L.logIs (by lia) i
 refine x22 L.mod fun kv adr g kk ad=>?_
 have lkv:kv.length≤1000:=Nat.le_trans kk.len (by decide)
 generalize hrs:(M i).getD []=rs at gl lN lg
 have fin:∀ o9 σ1 kv1,Fr (·=md) σ σ1→σ1.get md=some (.dict kv1)→KV K0E kv1 (k3p (k0u M i) adr) →
   exs (K.C (n+8)) kU [.setI (.loc 2) (.loc 3) (.bin .add (.loc 5) (.list [(.callF kX [(.loc 4)])])),
   .ret (.callF jL [(.loc 1),(.loc 3),(.loc 4)])]
   [some (.ref dk),some (.ref D.d),some (.ref md),some (.str (nmT i)),some (k4t o o2 w z m),some (.ref lr),some (.ref s6),o7,o8,o9] σ1 (fun o z9 σ=>Q (o.getD .none) σ) (fun z9 e σ=>X e σ):=by
  intro o9 σ1 kv1 f1 g1 k1
  have gl1:=f1.get (fun q=>nl (.inr (.inr (.inl q)))) gl
  refine k7s (by lia) fun σ2 n2=>?_
  refine fun u hu=>?_
  have nu:New σ2 (σ2.upd u (.list [Kg ⟨o,o2,w,z,kR [32] (jd m)⟩])):=Fr.refl.new hu
  have n12:=n2.tr nu
  refine k5x (n12.g gl1) kb (ky (by refine er (List.length_map _) ?_;show _+1≤_;lia)) fun v hv=>?_
  have gv:((σ2.upd u (.list [Kg ⟨o,o2,w,z,kR [32] (jd m)⟩])).upd v (.list (rs.map Kg++[Kg ⟨o,o2,w,z,kR [32] (jd m)⟩]))).get v=some (.list ((rs++[(⟨o,o2,w,z,kR [32] (jd m)⟩:Rec)]).map Kg)):=by refine er List.map_append ?_;exact kb
  have n13:New σ1 ((σ2.upd u (.list [Kg ⟨o,o2,w,z,kR [32] (jd m)⟩])).upd v (.list (rs.map Kg++[Kg ⟨o,o2,w,z,kR [32] (jd m)⟩]))):=n12.new hv
  have hv1:=n12.nhas hv
  generalize (σ2.upd u (.list [Kg ⟨o,o2,w,z,kR [32] (jd m)⟩])).upd v (.list (rs.map Kg++[Kg ⟨o,o2,w,z,kR [32] (jd m)⟩]))=σ3 at gv n13 ⊢
  refine Qn (k:=.str (nmT i)) (n13.g g1) (Nat.le_trans k1.len (by decide)) ?_
  have f4:Fr (·=md) σ (σ3.upd md (.dict (Kr kv1 (.str (nmT i)) (.ref v)))):=(f1.tn n13).set (.inl rfl)
  have g4:(σ3.upd md (.dict (Kr kv1 (.str (nmT i)) (.ref v)))).get md=some (.dict (Kr kv1 (.str (nmT i)) (.ref v))):=kb
  have vm:md≠v:=fun q=>hv1 (q▸Sto.has_of g1)
  have gv4:=KO (c':=.dict (Kr kv1 (.str (nmT i)) (.ref v))) vm gv
  have k4:=(k1.set (k:=.str (nmT i)) (v:=.ref v) (K2b i)).of fun j=>ud (adr:=adr) (b:=v) (v:=some (rs++[(⟨o,o2,w,z,kR [32] (jd m)⟩:Rec)])) j
  generalize σ3.upd md (.dict (Kr kv1 (.str (nmT i)) (.ref v)))=σ4 at f4 g4 gv4 ⊢
  have fmd:∀ {a},LW dk cl md D a→a≠md→σ.has a:=fun h z9=>L.has h
  have h4:kq σ4 D none con:=L.disk.frame f4 (fun a o q=>L.sep.2.2.1 (q▸o)) L.sep.2.2.2.2.2.2.2
  have hv0:¬ σ.has v:=f1.nhas hv1
  refine ux h4 L.neat (fun q=>absurd rfl q) lg (by lia) lm hm (fun j l σ5 a5 h5 e5=>?_) fun j l con' σ5 q=>absurd rfl q
  cases e5 rfl
  refine x07 L.sep fun s1 s2 s3 s4 s5 s6' s7 s8=>?_
  have go:Go dk cl md D σ j σ5:=(Go.mdl f4).trans (Go.deed a5)
  have d4:Kt σ4 dk cl t:=L.deck.fr f4 (fun q=>s4 q.symm) fun q=>s5 q.symm
  have t4:=f4.get (fun q=>by rw[← q,L.tab.1] at g;cases g) L.tab.1
  have msgs:∀ r∈rs++[(⟨o,o2,w,z,kR [32] (jd m)⟩:Rec)],Ji r.m:=fun r m'=>(List.mem_append.1 m').elim (lg.msgs r) fun m'=>by refine er (List.mem_singleton.1 m') ?_;exact k5y lm hm
  have hh:∀ {a},σ.has a→σ4.has a:=fun h=>f4.pre_has h
  refine k j _ ((k0u M i).put i (some (rs++[(⟨o,o2,w,z,kR [32] (jd m)⟩:Rec)]))) σ5 go ⟨d4.fr a5.1 s1 s2,⟨a5.1.get L.tab.2 t4,a5.not L.tab.2 (Sto.has_of t4)⟩,h5,⟨_,_,a5.1.get s3 g4,k4,fun p ts e=>?_⟩,k1J L.neat,k6Z L.logs msgs (by refine er List.length_append ?_;show _+1≤_;lia),
   a5.not s1 (hh (L.has (.inl rfl))),a5.not s2 (hh (L.has (.inr (.inl rfl)))),a5.not s3 (Sto.has_of g4),s4,s5,s6',s7,s8⟩
  unfold Mod.put at e
  have own_v:∀ {a},¬ D.own a→σ4.has a→a≠dk→a≠cl→a≠md→¬ LW dk cl md (D.w j) a:=fun h1 h2 h3 h4 h5 q=>by
   rcases q with q | q | q | q
   ·exact h3 q
   ·exact h4 q
   ·exact h5 q
   ·exact a5.not h1 h2 q
  by_cases y:p=i
  ·rw[if_pos y] at e;injection e with e;subst e
   have nv:¬ D.own v:=fun q=>hv0 (L.disk.has q)
   rw[if_pos y]
   exact ⟨a5.1.get nv gv4,own_v nv (Sto.has_of gv4) (fun q=>hv0 (q▸L.has (.inl rfl))) (fun q=>hv0 (q▸L.has (.inr (.inl rfl)))) fun q=>vm q.symm⟩
  ·rw[if_neg y] at e
   have eM:M p=some ts:=by
    unfold k0u at e
    by_cases c1:i=1
    ·rw[if_pos c1] at e;unfold Mod.put at e
     by_cases c2:p=2
     ·rw[if_pos c2] at e;injection e
     ·rw[if_neg c2] at e;exact e
    ·rw[if_neg c1] at e
     by_cases c3:i=2
     ·rw[if_pos c3] at e;unfold Mod.put at e
      by_cases c2:p=1
      ·rw[if_pos c2] at e;injection e
      ·rw[if_neg c2] at e;exact e
     ·rw[if_neg c3] at e;exact e
   obtain ⟨q1,q2⟩:=ad p ts eM
   rw[if_neg y]
   have nq:¬ D.own (adr p):=fun q=>q2 (.inr (.inr (.inr q)))
   have q3:=f4.get (fun q=>q2 (.inr (.inr (.inl q)))) q1
   exact ⟨a5.1.get nq q3,own_v nq (Sto.has_of q3) (fun q=>q2 (.inl q)) (fun q=>q2 (.inr (.inl q))) fun q=>q2 (.inr (.inr (.inl q)))⟩
 refine Kj g6 (ky ?_) ?_
 ·rcases hk with ⟨rfl,_⟩ | ⟨j,_,_,rfl,_⟩
  ·exact Nat.zero_le _
  ·show 1≤1000000;decide
 have s6m:s6≠md:=fun q=>n6 (.inr (.inr (.inl q)))
 rcases hk with ⟨rfl,ec⟩ | ⟨j,ts,hj,rfl,eM,ec⟩
 ·refine And.intro ((Fr.refl (W:=fun _=>False)).u g6) ?_
  exact fin o9 σ kv .refl g (by refine er ec ?_;exact kk)
 ·refine And.intro ((Fr.refl (W:=fun _=>False)).u g6) ?_
  refine kK (jY g).2.2 ?_
  refine wO (k:=.str (nmT j)) g lkv (by refine er kk.get ?_;rw[Qm,eM];rfl) ?_
  have f1:Fr (·=md) σ (σ.upd md (.dict (jS kv (.str (nmT j))))):=Fr.refl.set (.inl rfl)
  refine And.intro (f1.unt s6m (Sto.has_of g6)) ?_
  refine fin _ _ _ f1 kb (kk.del.of fun k=>?_)
  refine er ec ?_
  have e:=ud (M:=M) (adr:=adr) (i:=j) (v:=none) (b:=adr j) k
  rw[show (fun q=>if q=j then adr j else adr q)=adr from funext fun q=>by
   by_cases y:q=j
   ·exact er (if_pos y) (er y rfl)
   ·exact er (if_neg y) rfl] at e
  exact e
theorem Zw (L:LS σ dk cl md D con M t N) (ht:t≤80000) (hN:N≤50)
  (k:∀ j con' M' σ',Go dk cl md D σ j σ'→LS σ' dk cl md (D.w j) con' M' (t+30) (N+1)→Q (.bool true) σ'):K.C (n+9) jD [.ref dk,.ref D.d,.ref md,.str (nmT i)] σ Q X:=by
 refine kj JN [some (.ref dk),some (.ref D.d),some (.ref md),some (.str (nmT i)),none,none,none,none,none,none] rfl rfl ?_
 refine K1h L.deck (by lia) fun o o2 w z m σ1 lm hm f1 d1=>?_
 have L1:=L.draw f1 d1
 refine kK L1.isFor.1 ?_
 refine fun r hr=>?_
 refine K09 L1 hr fun lr gl nl=>?_
 have n2:New σ1 (σ1.upd r (.list [])):=Fr.refl.new hr
 have L2:=L1.n n2
 have f2:=f1.tn n2
 generalize σ1.upd r (.list [])=σ2 at n2 L2 f2 gl ⊢
 refine bc fun zg=>?_
 refine x22 L2.mod fun kv adr g kk ad=>?_
 refine x14 kk.keys fun ks e nd mem len z9=>?_
 have lks:ks.length≤4:=Nat.le_trans len (by decide)
 refine zg ?_;clear zg
 refine k0q g (ky (Nat.le_trans kk.len (by decide))) ?_
 refine er e ?_
 refine qd (g:=some md) (f:=Key.v) (k0i i) (fun z9 e=>by injection e with e;refine er (Eq.symm e) ?_;exact Sto.has_of g) (ky (by lia)) (fun y my σ' nw KK k kn=>?_) (fun σ3 s nw hs=>?_)
 ·have my:=(mem y).1 my
  have hj:∃ j,y=.str (nmT j):=Classical.byContradiction fun z=>my (ZF fun j q=>z ⟨j,q⟩)
  obtain ⟨j,rfl⟩:=hj
  refine k6J (i:=i) (j:=j) fun σ4 n4=>?_
  have bk:=k3C i j
  refine Ku (b:=Jd i j) (fun b=>k (bk.trans b) _ n4) (fun b=>kn (bk.trans b) _ n4)
 ·have n3:New σ2 (σ3.upd s (.list ((ks.filter (k0i i)).map Key.v))):=nw.new hs
  have gs:(σ3.upd s (.list ((ks.filter (k0i i)).map Key.v))).get s=some (.list ((ks.filter (k0i i)).map Key.v)):=kb
  have L3:=L2.n n3
  have hs2:¬ σ2.has s:=nw.nhas hs
  have ns:¬ LW dk cl md D s:=fun q=>hs2 (L2.has q)
  have f3:=f2.tn n3
  have gl3:=n3.g gl
  generalize σ3.upd s (.list ((ks.filter (k0i i)).map Key.v))=σ4 at n3 gs L3 f3 gl3 ⊢
  have hk:=k7i nd mem i
  generalize ks.filter (k0i i)=bl at hk gs ⊢
  refine fun u hu=>?_
  have n5:New σ4 (σ4.upd u (.list [])):=Fr.refl.new hu
  refine k7A (n5.g gs) kb ?_
  have L5:=L3.n n5
  have f5:=f3.tn n5
  have gs5:=n5.g gs
  have gl5:=n5.g gl3
  generalize σ4.upd u (.list [])=σ5 at n5 L5 f5 gs5 gl5 ⊢
  have fin:∀ {o7 o8 o9 σ6 t6},Fr (DW dk cl) σ σ6→LS σ6 dk cl md D con M t6 N→t6≤t+30→σ6.get lr=some (.list (((M i).getD []).map Kg))→σ6.get s=some (.list (bl.map Key.v))→_:=fun {o7 o8 o9 σ6 t6} f6 L6 l6 gl6 gs6 =>
   k7c (K:=K) (n:=n) (X:=X) (Q:=Q) (o:=o) (o2:=o2) (w:=w) (z:=z) (m:=m) (o7:=o7) (o8:=o8) (o9:=o9) L6 hN lm hm gl6 nl gs6 ns hk fun j con' M' σ' go L'=>k j con' M' σ' ((Go.draw f6).trans go) (L'.le l6 (Nat.le_refl _))
  refine Ku (b:=(bl.map Key.v).isEmpty) (fun y=>?_) (fun y=>?_)
  ·have eb:bl=[]:=by cases bl with | nil=>rfl | cons _ _=>injection y
   have ec:k0u M i=M:=by
    rcases hk with ⟨_,ec⟩ | ⟨_,_,_,q,_⟩
    ·exact ec
    ·rw[eb] at q;injection q
   refine JL (b:=3) L5.deck (by lia) (by decide) (by decide) fun r6 σ6 h6 f6 d6=>?_
   have L6:=L5.draw f6 d6
   have dw:∀ {a},¬ LW dk cl md D a→¬ DW dk cl a:=fun h q=>h (q.elim .inl fun q=>.inr (.inl q))
   have gl6:=f6.get (dw nl) gl5
   have gs6:=f6.get (dw ns) gs5
   refine Ku (b:=((r6:Nat):Int)==0) (fun z9=>?_) (fun z9=>?_)
   ·refine k3z (o:=o) (o2:=o2) (w:=w) (z:=z) (m:=m) L6 (by lia) hN (k6o L6.logs ec) lm hm gl6 nl gs6 ns fun o7 o8 σ7 f7 d7=>?_
    exact fin ((f5.tr f6).tr f7) (L6.draw f7 d7) (by lia) (f7.get (dw nl) gl6) (f7.get (dw ns) gs6)
   ·exact fin (f5.tr f6) L6 (by lia) gl6 gs6
  ·exact fin f5 L5 (by lia) gl5 gs5
end
end
section
variable {K:Calls}
section
variable {σ σ':Sto} {dk cl md:Addr} {D:Dk} {con:Con} {M:Mod} {t N n:Nat} {i j:Fin 4} {Q:QV} {X:QX}
theorem k3X {e1 e2 e3:IE} {ρ:Loc} {R:Bool→Sto→Prop} {XX:QX} (L:LS σ dk cl md D con M t N) (hN:N≤100) (h1:∀ σ Q,Q (.ref D.d) σ→evM (K.C (n+6)) kU e1 ρ σ (.inl Q) XX) (h2:∀ σ Q,Q (.str (nmT j)) σ→evM (K.C (n+6)) kU e2 ρ σ (.inl Q) XX) (h3:∀ σ Q,Q (.ref md) σ→evM (K.C (n+6)) kU e3 ρ σ (.inl Q) XX)
  (k:∀ σ',New σ σ'→R false σ'):evM (K.C (n+6)) kU (.cmp .ne (.callF kP [e1,e2]) (.meth .dget e3 [e2,(.list [])])) ρ σ (.inr R) XX:=by
 refine h1 _ _ ?_
 refine h2 _ _ ?_
 refine k5p L.disk (L.neat.tidy j) (L.logIs hN j) fun a σ1 n1 ha ga=>?_
 refine h3 _ _ ?_
 have L1:=L.n n1
 refine kK L1.isFor.1 ?_
 refine h2 _ _ ?_
 refine fun r hr=>?_
 refine K09 L1 hr fun lr gl nl=>?_
 have n2:New σ1 (σ1.upd r (.list [])):=Fr.refl.new hr
 refine k9g (n2.g ga) gl ?_
 exact k _ (n1.tr n2)
theorem k9U {o4 o5 o6 o7 o8 o9 o10 o11 o12 o13:Option V} (L:LS σ dk cl md D con M t N) (hN:N≤100) (ht:t≤90000)
  (k:∀ σ',Fr (DW dk cl) σ σ'→LS σ' dk cl md D con M (t+1) N→Q (.bool true) σ') :
  exs (K.C (n+6)) kU [.for1 13 (.e (.list [(.loc 3),(.callF Kq [(.loc 0),(.callF KG [])])])) [.ite (.cmp .ne (.callF kP [(.loc 1),(.loc 13)]) (.meth .dget (.loc 2) [(.loc 13),(.list [])])) [.ret (.cbool false)] []],
   .ret (.cbool true)] [some (.ref dk),some (.ref D.d),some (.ref md),some (.str (nmT i)),o4,o5,o6,o7,o8,o9,o10,o11,o12,o13] σ (fun o z9 σ=>Q (o.getD .none) σ) (fun z9 e σ=>X e σ):=by
 refine k1g fun r σ1 n1 hr gr=>?_
 have L1:=L.n n1
 refine uv L1.deck (by lia) gr (fun q=>hr (L.has (q.elim .inl fun q=>.inr (.inl q)))) (by decide) (by decide) fun z v σ2 ev f2 d2=>?_
 obtain ⟨j,rfl⟩:=k5d ev
 have L2:=L1.draw f2 d2
 refine fun s hs=>?_
 have n3:New σ2 (σ2.upd s (.list [.str (nmT i),.str (nmT j)])):=Fr.refl.new hs
 have gs:(σ2.upd s (.list [.str (nmT i),.str (nmT j)])).get s=some (.list [.str (nmT i),.str (nmT j)]):=kb
 have L3:=L2.n n3
 have f3:=(Fr.nt n1 f2).tn n3
 generalize σ2.upd s (.list [.str (nmT i),.str (nmT j)])=σ3 at n3 gs L3 f3 ⊢
 refine Kj gs (show 2≤kt by decide) ?_
 refine JM (g:=some s) (l:=[i,j]) (h:=fun p=>.str (nmT p)) (fun o=>[some (.ref dk),some (.ref D.d),some (.ref md),some (.str (nmT i)),o4,o5,o6,o7,o8,o9,o10,o11,o12,o])
  (fun z9=>New σ3) (fun z9 σ' i=>i.u gs) (fun p z9 o σ' nw KK k' z9=>?_) (fun o σ' nw=>k σ' (f3.tn nw) (L3.n nw)) _ .refl
 refine k3X (K:=K) (n:=n) (j:=p) (L3.n nw) hN (fun σ Q q=>q) (fun σ Q q=>q) (fun σ Q q=>q) fun σ4 n4=>?_
 exact k' _ _ _ rfl (nw.tr n4)
theorem k2e {rs:List Rec} {u:By} {N':Nat} (h:∀ k,QI con k N (M k)) (lN:N≤N') (hm:∀ r∈rs,Ji r.m) (hl:rs.length≤N') (hu:10∉u) (lu:u.length≤20*N') (k:Fin 4) :
  QI (con.put (i,false) (some (Ka rs++u))) k N' (M.put i (some rs) k):=by
 unfold Mod.put
 by_cases z:k=i
 ·refine er (if_pos z) (er z ?_);exact ⟨hm,hl,u,Con.put_at,hu,lu⟩
 ·refine er (if_neg z) ?_
  have c:=(h k).le lN
  have e:con.put (i,false) (some (Ka rs++u)) (k,false)=con (k,false):=Con.put_ne fun q=>z (Prod.mk.inj q).1
  cases q:M k with
  | none=>rw[q] at c;exact e.trans c
  | some ts =>
   rw[q] at c
   refine x02 c ?_;clear c;intro h1 h2 zz0;refine x11 zz0 fun u' h3 h4=>?_
   exact ⟨h1,h2,u',e.trans h3,h4⟩
theorem Zy {b:By} (nt:uq con) (h:con (i,false)≠none):uq (con.put (i,false) (some b)) where
 locks j:=(Con.put_ne ua).trans (nt.locks j)
 way q:=by
  have a:con (1,false)≠none:=fun e=>by
   by_cases z:i=1
   ·exact h (by refine er z ?_;exact e)
   ·rw[Con.put_ne fun y=>z (Prod.mk.inj y).1.symm] at q;exact q e
  have b:=nt.way a
  refine er (Con.put_ne fun y=>h (by refine er (show i=2 from (Prod.mk.inj y).1.symm) ?_;exact b)) ?_;exact b
theorem K0e (nt:uq con) (h:con (i,false)≠none):k5h con (i,false) :=
 Yu (fun e=>Classical.byContradiction fun q=>h (by refine er (show i=2 from e) ?_;exact nt.way q)) fun e l=>nt.tidy i h (Prod.mk.inj e).1 l
theorem LS.some_i (L:LS σ dk cl md D con M t N) {rs:List Rec} (e:M i=some rs):(∀ r∈rs,Ji r.m)∧rs.length≤N∧∃ u,con (i,false)=some (Ka rs++u)∧10∉u∧u.length≤20*N:=by
 have l:=L.logs i
 rw[e] at l;exact l
noncomputable abbrev k6c:By:=[48,48,48,55,48,49,48,49,32,48,48,48,55,48,49]
theorem k60:∀ i:Fin 4,(nmT i).length≤100∧(∀ c∈nmT i,0≤(c:Int)∧(c:Int)<256)∧[46,103,105,116,47,108,111,103,115,47]++((nmT i).map fun c:Nat=>(c:Int)).map (fun i:Int=>i.toNat.toUInt8)=pB (i,false):=by decide +kernel
theorem K0U {o4 o6 o8 o9 o10 o11 o12 o13:Option V} {v5:V} {rs:List Rec} {KK:QS} {XX:QXS} (L:LS σ dk cl md D con M t N) (hN:N≤100) (ht:t≤90000) (e:M i=some rs)
  (k:∀ j con' M' o7 σ',Go dk cl md D σ j σ'→LS σ' dk cl md (D.w j) con' M' (t+1) (N+1)→KK none [some (.ref dk),some (.ref D.d),some (.ref md),some (.str (nmT i)),o4,some v5,o6,o7,o8,o9,o10,o11,o12,o13] σ') :
  exs (K.C (n+4)) kU [.asg 7 (.bin .add (.cbytes [46,103,105,116,47,108,111,103,115,47]) (.bi .bytes [(.comp [] (.e (.loc 3)) none (.bi .ord [(.loc 0)]))])),
   .expr (.imeth ko jf [97,112,112,101,110,100] (.loc 1) [(.loc 7),(.slice (.cbytes [48,48,48,55,48,49,48,49,32,48,48,48,55,48,49]) none (some (.bin .add (.cint 1) (.callF kw [(.loc 0),(.cint 15)]))))])]
   [some (.ref dk),some (.ref D.d),some (.ref md),some (.str (nmT i)),o4,some v5,o6,none,o8,o9,o10,o11,o12,o13] σ KK XX:=by
 refine bc fun zg=>?_
 refine x02 (L.some_i e) fun m1 m2 zz0=>?_;refine x12 zz0 fun u m3 m4 m5=>?_
 refine x02 (k60 i) fun p1 p2 p3=>?_
 refine zg ?_;clear zg
 have hne:con (i,false)≠none:=by refine er m3 ?_;exact fun q=>nomatch q
 refine wX (nmT i) (fun c:Nat=>.int (c:Nat)) (fun z9 e=>nomatch e) (ky (by lia)) (fun x z9 σ z9 KK k=>k σ .refl) fun σ1 c n1 hc=>?_
 have n2:New σ1 (σ1.upd c (.list ((nmT i).map fun c:Nat=>V.int (c:Nat)))):=Fr.refl.new hc
 refine qr (is:=(nmT i).map fun c:Nat=>(c:Int)) (by refine er List.map_map ?_;exact kb) (ky (by refine er (List.length_map _) ?_;lia)) (fun x m=>by
  refine x11 (List.mem_map.1 m) fun c mc zr2=>?_;subst zr2;exact p2 c mc) ?_
 refine And.intro (ky (by refine er (List.length_map _) ?_;refine er (List.length_map _) ?_;show 10+_≤_;lia)) ?_
 refine er p3 ?_
 have L2:=L.n (n1.tr n2)
 have n02:=n1.tr n2
 generalize σ1.upd c (.list ((nmT i).map fun c:Nat=>V.int (c:Nat)))=σ2 at n2 L2 n02 ⊢
 refine L2.disk.obj.meth rfl ?_
 refine JL (b:=15) L2.deck (by lia) (by decide) (by decide) fun r σ3 hr f3 d3=>?_
 have L3:=L2.draw f3 d3
 refine kK (jk (by unfold KI;lia)) ?_
 refine kZ (c:=k6c.take (1+r)) (by decide) (k1U (k:=1+r)) ?_
 have lx:(k6c.take (1+r)).length≤15:=List.length_take_le' _ _
 have nx:10∉k6c.take (1+r):=fun m=>absurd (List.mem_of_mem_take m) (by decide)
 have al:=Jr m1
 have hb:(Ka rs++u).length≤1000000:=by refine er List.length_append ?_;lia
 refine k1n (p:=(i,false)) L3.disk (K0e L.neat hne) (by lia) (by refine er m3 ?_;rfl) hb (fun j l σ4 a4 h4 e4=>?_) fun e j l o σ' q=>absurd rfl q
 cases e4 rfl
 rw[List.append_assoc] at h4
 have lg:=fun k=>k2e (i:=i) (u:=u++k6c.take (1+r)) (N':=N+1) L3.logs (Nat.le_succ N) m1 (by lia) (fun m=>(List.mem_append.1 m).elim m4 nx) (by refine er List.length_append ?_;lia) k
 have hM:∀ k,M.put i (some rs) k=M k:=fun k=>by
  unfold Mod.put
  by_cases z:k=i
  ·exact er (if_pos z) (er z (er e rfl))
  ·exact er (if_neg z) rfl
 exact k j _ (M.put i (some rs)) _ σ4 (((Go.new n02).trans (Go.draw f3)).trans (Go.deed a4)) (L3.deed a4 h4 (Zy L.neat hne) hM lg)
end
end
section
variable {K:Calls}
section
variable {σ σ' σ₁:Sto} {dk cl md:Addr} {D:Dk} {con con':Con} {M M':Mod} {t N N' n:Nat} {i:Fin 4} {Q:QV} {X:QX}
theorem LS.next {j:Addr→Prop} {kv':List (V×V)} {adr':Fin 4→Addr} (L:LS σ dk cl md D con M t N) (a:kJ D σ j σ₁) (h:kq σ₁ (D.w j) none con') (k':KV K0E kv' (k3p M' adr'))
  (had:∀ i rs,M' i=some rs→σ₁.get (adr' i)=some (.list (rs.map Kg))∧¬ LW dk cl md (D.w j) (adr' i)) (nt:uq con') (lg:∀ k,QI con' k N' (M' k)) :
  LS (σ₁.upd md (.dict kv')) dk cl md (D.w j) con' M' t N':=by
 refine x07 L.sep fun s1 s2 s3 s4 s5 s6 s7 s8=>?_
 have f:Fr (·=md) σ₁ (σ₁.upd md (.dict kv')):=Fr.refl.set (.inl rfl)
 have sm:=a.not s3 (L.has (.inr (.inr (.inl rfl))))
 have g1:=a.1.get L.tab.2 L.tab.1
 refine ⟨(L.deck.fr a.1 s1 s2).fr f (fun q=>s4 q.symm) fun q=>s5 q.symm,⟨f.get (fun q=>?_) g1,a.not L.tab.2 (Sto.has_of L.tab.1)⟩,h.frame f (fun x o q=>sm (q▸o)) s8,⟨kv',adr',kb,k',fun p ts e=>⟨f.get (fun q=>(had p ts e).2 (.inr (.inr (.inl q)))) (had p ts e).1,(had p ts e).2⟩⟩,nt,lg,
  a.not s1 (L.has (.inl rfl)),a.not s2 (L.has (.inr (.inl rfl))),sm,s4,s5,s6,s7,s8⟩
 refine x21 L.mod fun kv adr g z9=>?_
 have:=L.tab.1
 rw[q,g] at this;cases this
theorem LW.w {j:Addr→Prop} {a:Addr} (af:kJ D σ j σ₁) (h:¬ LW dk cl md D a) (hh:σ.has a):¬ LW dk cl md (D.w j) a:=fun q=>by
 rcases q with q | q | q | q
 ·exact h (.inl q)
 ·exact h (.inr (.inl q))
 ·exact h (.inr (.inr (.inl q)))
 ·exact af.not (fun q=>h (.inr (.inr (.inr q)))) hh q
noncomputable def k5z (σ:Sto) (dk cl md:Addr) (D:Dk) (a:Addr):Prop:=∃ d,Mut kh σ a d [(k7m,.ref D.d),(k0U,.bytes ZD),(k83,.int 4)]∧¬ LW dk cl md D a∧¬ LW dk cl md D d
theorem k5z.s {a:Addr} (r:k5z σ dk cl md D a):k2l σ D a:=let ⟨d,h,h1,h2⟩:=r;⟨d,h,fun q=>h1 (.inr (.inr (.inr q))),fun q=>h2 (.inr (.inr (.inr q)))⟩
theorem k5z.fr {a:Addr} {W:Addr→Prop} (r:k5z σ dk cl md D a) (f:Fr W σ σ') (h:∀ a,W a→LW dk cl md D a∨¬ σ.has a):k5z σ' dk cl md D a :=
 let ⟨d,m,h1,h2⟩:=r
 ⟨d,m.fr f (fun q=>(h _ q).elim h1 fun y=>y (Sto.has_of m.1)) (fun q=>(h _ q).elim h2 fun y=>y (Sto.has_of m.2.1)),h1,h2⟩
theorem k0H (L:LS σ dk cl md D con M t N) (k:∀ a σ',New σ σ'→¬ σ.has a→k5z σ' dk cl md D a→Q (.ref a) σ'):∀ a d,¬ σ.has a→¬ σ.has d→a≠d →
  K.C (n+1) Ky [.ref a,.ref D.d,.bytes ZD,.int 4] ((σ.upd d (.dict [])).upd a (.inst kh d)) (fun r σ=>r=.none∧Q (.ref a) σ) X:=fun a d ha hd ne=>by
 obtain ⟨o,nw⟩:=Mut.start (C:=kh) ha hd ne
 refine kj KZ [some (.ref a),some (.ref D.d),some (.bytes ZD),some (.int 4)] rfl rfl ?_
 refine o.set rfl fun o=>?_
 refine o.set rfl fun o=>?_
 refine o.set rfl fun o=>?_
 exact ⟨rfl,k a _ (((nw.set (.inr hd)).set (.inr hd)).set (.inr hd)) ha ⟨d,o,fun e=>ha (L.has e),fun e=>hd (L.has e)⟩⟩
theorem K03 {a:Addr} {ρ:Loc} {KK:QS} {XX:QXS} (L:LS σ dk cl md D con M t N) (ra:k5z σ dk cl md D a) {o4 o5 o7 o8 o9 o10 o11 o12 o13:Option V}
  (k:∀ j con' M' σ',Go dk cl md D σ j σ'→LS σ' dk cl md (D.w j) con' M' t N→KK none [some (.ref dk),some (.ref D.d),some (.ref md),some (.str (nmT i)),o4,o5,some (.ref a),o7,o8,o9,o10,o11,o12,o13] σ') :
  exs (K.C (n+5)) kU [.expr (.imeth kh kM [114,101,109,111,118,101] (.loc 6) [(.loc 3)]),.expr (.meth .dpop (.loc 2) [(.loc 3),.cnone])]
   [some (.ref dk),some (.ref D.d),some (.ref md),some (.str (nmT i)),o4,o5,some (.ref a),o7,o8,o9,o10,o11,o12,o13] σ KK XX:=by
 refine ra.s.ref.meth rfl ?_
 refine K0B ra.s.ref L.disk (L.neat.tidy i) fun j σ1 a1 h1=>?_
 refine x22 L.mod fun kv adr g kk ad=>?_
 have g1:=a1.1.get L.sep.2.2.1 g
 have lkv:kv.length≤1000:=Nat.le_trans kk.len (by decide)
 have nt:uq (con.put (i,false) none):=⟨fun j=>(Con.put_ne ua).trans (L.neat.locks j),fun q=>by
  by_cases z:i=2
  ·refine er z ?_;exact Con.put_at
  ·refine er (Con.put_ne fun y=>z (Prod.mk.inj y).1.symm) ?_
   refine L.neat.way fun e=>q ?_
   by_cases y:i=1
   ·refine er y ?_;exact Con.put_at
   ·refine er (Con.put_ne fun w=>y (Prod.mk.inj w).1.symm) ?_;exact e⟩
 have lg:∀ k,QI (con.put (i,false) none) k N (M.put i none k):=fun k=>by
  unfold Mod.put
  by_cases z:k=i
  ·rw[if_pos z];refine er z ?_;exact Con.put_at
  ·rw[if_neg z]
   have c:=L.logs k
   have e:con.put (i,false) none (k,false)=con (k,false):=Con.put_ne fun q=>z (Prod.mk.inj q).1
   cases q:M k with
   | none=>rw[q] at c;exact e.trans c
   | some ts =>
    rw[q] at c
    refine x02 c ?_;clear c;intro h1 h2 zz0;refine x11 zz0 fun u' h3 h4=>?_
    exact ⟨h1,h2,u',e.trans h3,h4⟩
 have had:∀ (M2:Mod),(∀ p ts,M2 p=some ts→M p=some ts)→∀ p ts,M2 p=some ts→σ1.get (adr p)=some (.list (ts.map Kg))∧¬ LW dk cl md (D.w j) (adr p):=fun M2 hM p ts e=>by
  obtain ⟨q1,q2⟩:=ad p ts (hM p ts e)
  exact ⟨a1.1.get (fun q=>q2 (.inr (.inr (.inr q)))) q1,LW.w a1 q2 (Sto.has_of q1)⟩
 refine kK (jY g1).2.2 ?_
 cases e:M i with
 | none =>
  refine k2G (k:=.str (nmT i)) g1 lkv (by refine er kk.get ?_;rw[Qm,e];rfl) ?_
  have em:=Mod.put_self e
  rw[em] at lg
  exact k j _ M σ1 (Go.deed a1) (L.deed a1 h1 nt (fun z9=>rfl) lg)
 | some rs =>
  refine k3i (k:=.str (nmT i)) g1 lkv (by refine er kk.get ?_;rw[Qm,e];rfl) ?_
  have kd:KV K0E (jS kv (.str (nmT i))) (k3p (M.put i none) adr):=kk.del.of fun k=>by
   have e:=ud (M:=M) (adr:=adr) (i:=i) (v:=none) (b:=adr i) k
   rw[show (fun q=>if q=i then adr i else adr q)=adr from funext fun q=>by
    by_cases y:q=i
    ·exact er (if_pos y) (er y rfl)
    ·exact er (if_neg y) rfl] at e
   exact e
  refine k j _ (M.put i none) _ ((Go.deed a1).trans (Go.mdl (D:=D.w j) (Fr.refl.set (.inl rfl)))) (L.next a1 h1 kd (had _ fun p ts e=>?_) nt lg)
  unfold Mod.put at e
  by_cases y:p=i
  ·rw[if_pos y] at e;injection e
  ·rw[if_neg y] at e;exact e
end
end
section
variable {K:Calls}
section
variable {σ σ' σ₁:Sto} {dk cl md:Addr} {D:Dk} {con con':Con} {M M':Mod} {t N N' n:Nat} {i:Fin 4} {Q:QV} {X:QX}
theorem K0K {w a b d:Addr} {rs ts:List Rec} (g:σ.get w=some (.list [.ref b,.ref d])) (ha:σ.get a=some (.list (ts.map Kg))) (hb:σ.get b=some (.list (rs.map Kg))) (hd:σ.get d=some (.list (ts.map Kg))):inV (.ref a) (.ref w) σ=some true:=by
 exact x11 (Ww hb ha) fun c e z9=>x11 (Ww hd ha) fun c2 e2 k=>(ZU g).trans ((qc e (qc e2 rfl)).trans (by refine er (k rfl) ?_;cases c <;> rfl))
theorem k0X (rs:List Rec) (b:Int) (w:Bool):(Kw rs b w).length≤rs.length:=by
 unfold Kw
 by_cases z:(rs.filter (kY b w)).length=rs.length
 ·refine er (if_pos z) ?_;exact Nat.le_refl _
 ·refine er (if_neg z) ?_
  have z:∀ (l acc:List Rec),((l.foldl (fun acc x=>acc++[lk acc x]) acc).length=acc.length+l.length):=fun l=>by
   induction l with
   | nil=>exact fun z9=>rfl
   | cons x l ih=>exact fun acc=>(ih _).trans (by refine er List.length_append ?_;show acc.length+1+l.length=acc.length+(l.length+1);lia)
  have:=z (rs.filter (kY b w)) []
  replace this:(KJ (rs.filter (kY b w))).length=0+(rs.filter (kY b w)).length:=this
  have:=List.length_filter_le (kY b w) rs
  lia
theorem k2U {a lr v:Addr} {b:Int} {w:Bool} {rs:List Rec} {o4:Option V} {KK:QS} {XX:QXS} (L:LS σ dk cl md D con M t N) (hN:N≤50) (ht:t≤90000) (e:M i=some rs) (ra:k5z σ dk cl md D a)
  (gl:σ.get lr=some (.list (rs.map Kg))) (nl:¬ LW dk cl md D lr) (gv:σ.get v=some (.list ((Kw rs b w).map Kg))) (nv:¬ LW dk cl md D v)
  (k:∀ j con' M' o12 σ',Go dk cl md D σ j σ'→LS σ' dk cl md (D.w j) con' M' (t+1) N→KK none [some (.ref dk),some (.ref D.d),some (.ref md),some (.str (nmT i)),o4,some (.ref lr),some (.ref a),none,some (.int b),some (.bool w),some (.ref v),some (Jg w),o12,none] σ') :
  exs (K.C (n+9)) kU [.asg 12 (.imeth ko KS [99,111,112,121] (.loc 1) []),
     .setA ko [108,101,102,116] (.loc 12) (.callF kw [(.loc 0),(.cint 5)]),
     .tryE
      [
      .expr (.imeth kh kL [101,120,112,105,114,101] (.new kh [(.loc 12),(.cbytes [46,103,105,116,47,108,111,103,115]),(.cint 4)]) [(.loc 3),(.loc 8),(.loc 11)])] Qv none
      [
      .pass],
     .setA ko [108,101,102,116] (.loc 12) .cnone,
     .ite (.or (.cmp .notin (.callF kP [(.loc 12),(.loc 3)]) (.list [(.loc 5),(.loc 10)])) (.cmp .ne (.imeth kh kL [101,120,112,105,114,101] (.loc 6) [(.loc 3),(.loc 8),(.loc 11)]) (.bin .sub (.bi .len [(.loc 5)]) (.bi .len [(.loc 10)]))))
      [
      .ret (.cbool false)]
      [],
     .setI (.loc 2) (.loc 3) (.loc 10)]
   [some (.ref dk),some (.ref D.d),some (.ref md),some (.str (nmT i)),o4,some (.ref lr),some (.ref a),none,some (.int b),some (.bool w),some (.ref v),some (Jg w),none,none] σ KK XX:=by
 refine bc fun zg=>?_
 refine x02 (L.some_i e) fun m1 m2 zz0=>?_;refine x12 zz0 fun u m3 m4 m5=>?_
 refine zg ?_;clear zg
 have lg:Jm con i rs:=by have:=L.logIs (by lia) i;rw[e] at this;exact this
 have hne:con (i,false)≠none:=by refine er m3 ?_;exact fun q=>nomatch q
 have xl:=k0X rs b w
 refine L.disk.obj.meth rfl ?_
 refine k7H L.disk fun D2 σ1 n1 ho hd h1=>?_
 have L1:=L.n n1
 have sep2:∀ {a},σ.has a→¬ D2.own a:=fun h e=>ho _ e h
 refine JL (b:=5) L1.deck (by lia) (by decide) (by decide) fun r σ2 hr f2 d2=>?_
 have h2:=h1.frame f2 (fun a o q=>ho a o (L.has (q.elim .inl fun q=>.inr (.inl q)))) fun q=>hd (L.has (q.elim .inl fun q=>.inr (.inl q)))
 refine h2.obj.set rfl fun z9=>?_
 have h3:kq (σ2.upd D2.dd (.dict (KD (JG (some (r:Nat))) D2.fd D2.bd))) D2 (some (r:Nat)) con:=h2.setLeft (some (r:Nat))
 have f3:Fr (DW dk cl) σ (σ2.upd D2.dd (.dict (KD (JG (some (r:Nat))) D2.fd D2.bd))):=(Fr.nt n1 f2).set (.inr (ho _ (.inl rfl)))
 have d3:Kt (σ2.upd D2.dd (.dict (KD (JG (some (r:Nat))) D2.fd D2.bd))) dk cl (t+1):=d2.fr (W:=(·=D2.dd)) (Fr.refl.set (.inl rfl)) (fun q=>sep2 (L.has (.inl rfl)) (.inl q)) fun q=>sep2 (L.has (.inr (.inl rfl))) (.inl q)
 show exs (K.C (n+9)) kU _ _ (σ2.upd D2.dd (.dict (KD (JG (some (r:Nat))) D2.fd D2.bd))) _ _
 generalize σ2.upd D2.dd (.dict (KD (JG (some (r:Nat))) D2.fd D2.bd))=σ3 at h3 f3 d3 ⊢
 have dw:∀ {a},¬ LW dk cl md D a→¬ DW dk cl a:=fun h q=>h (q.elim .inl fun q=>.inr (.inl q))
 have last:∀ (ts:List Rec) (j:Addr→Prop) (l:Option Int) (con2:Con) σ4,(ts=rs∨ts=Kw rs b w)→kJ D2 σ3 j σ4→kq σ4 (D2.w j) l con2→k2v con2 i→Jm con2 i ts →
   exs (K.C (n+9)) kU [.setA ko [108,101,102,116] (.loc 12) .cnone,
     .ite (.or (.cmp .notin (.callF kP [(.loc 12),(.loc 3)]) (.list [(.loc 5),(.loc 10)])) (.cmp .ne (.imeth kh kL [101,120,112,105,114,101] (.loc 6) [(.loc 3),(.loc 8),(.loc 11)]) (.bin .sub (.bi .len [(.loc 5)]) (.bi .len [(.loc 10)]))))
      [.ret (.cbool false)] [],
     .setI (.loc 2) (.loc 3) (.loc 10)]
   [some (.ref dk),some (.ref D.d),some (.ref md),some (.str (nmT i)),o4,some (.ref lr),some (.ref a),none,some (.int b),some (.bool w),some (.ref v),some (Jg w),some (.ref D2.d),none] σ4 KK XX:=by
  intro ts j l con2 σ4 hts a4 h4 ti lg4
  refine h4.obj.set rfl fun z9=>?_
  have h5:=h4.setLeft none
  have f4:Fr (DW dk cl) σ σ4:=f3.trans a4.1 fun a e=>.inr (ho a e)
  have f5:Fr (DW dk cl) σ (σ4.upd (D2.w j).dd (.dict (KD (JG none) (D2.w j).fd (D2.w j).bd))):=f4.set (.inr (ho _ (.inl rfl)))
  have d4:Kt σ4 dk cl (t+1):=d3.fr a4.1 (sep2 (L.has (.inl rfl))) (sep2 (L.has (.inr (.inl rfl))))
  have d5:Kt (σ4.upd (D2.w j).dd (.dict (KD (JG none) (D2.w j).fd (D2.w j).bd))) dk cl (t+1):=d4.fr (W:=(·=D2.dd)) (Fr.refl.set (.inl rfl)) (fun q=>sep2 (L.has (.inl rfl)) (.inl q)) fun q=>sep2 (L.has (.inr (.inl rfl))) (.inl q)
  show exs (K.C (n+9)) kU _ _ (σ4.upd (D2.w j).dd (.dict (KD (JG none) (D2.w j).fd (D2.w j).bd))) _ _
  generalize σ4.upd (D2.w j).dd (.dict (KD (JG none) (D2.w j).fd (D2.w j).bd))=σ5 at h5 f5 d5 ⊢
  refine k5p (D:=D2.w j) h5 ti lg4 fun a' σ6 n6' ha' ga=>?_
  refine fun u hu=>?_
  have nu:New σ6 (σ6.upd u (.list [.ref lr,.ref v])):=Fr.refl.new hu
  have gu:(σ6.upd u (.list [.ref lr,.ref v])).get u=some (.list [.ref lr,.ref v]):=kb
  have n57:=n6'.tr nu
  have f7:=f5.tn n57
  have L7:=L.draw f7 (d5.fr n57 id id)
  have gl7:=f7.get (dw nl) gl
  have gv7:=f7.get (dw nv) gv
  have ga7:=nu.g ga
  have ra7:=ra.fr f7 fun a q=>.inl (q.elim .inl fun q=>.inr (.inl q))
  generalize σ6.upd u (.list [.ref lr,.ref v])=σ7 at nu gu n57 f7 L7 gl7 gv7 ga7 ra7 ⊢
  have hin:inV (.ref a') (.ref u) σ7=some true:=by
   rcases hts with rfl | rfl
   ·exact k7r gu ga7 gl7 gv7
   ·exact K0K gu ga7 gl7 gv7
  refine kN hin ?_
  refine ra7.s.ref.meth rfl ?_
  refine k1q ra7.s L7.disk L7.neat lg (fun j8 l8 con8 σ8 a8 h8 e8 hc lg8=>?_) fun e j l con' σ' q=>absurd rfl q
  cases e8 rfl
  have nl8:¬ D.own lr:=fun q=>nl (.inr (.inr (.inr q)))
  have nv8:¬ D.own v:=fun q=>nv (.inr (.inr (.inr q)))
  refine jN (a8.1.get nl8 gl7) (ky (by refine er (List.length_map _) ?_;lia)) ?_
  refine jN (a8.1.get nv8 gv7) (ky (by refine er (List.length_map _) ?_;lia)) ?_
  refine And.intro rfl ?_
  refine JH (b := !((rs.length:Int)-(Kw rs b w).length==(((rs.map Kg).length:Nat):Int)-((((Kw rs b w).map Kg).length:Nat):Int))) (by refine er (List.length_map _) ?_;refine er (List.length_map _) ?_;refine er (beq_self_eq_true _) ?_;rfl) ?_
  refine x22 L7.mod fun kv adr g kk ad=>?_
  have g8:=a8.1.get L7.sep.2.2.1 g
  refine Qn (k:=.str (nmT i)) g8 (Nat.le_trans kk.len (by decide)) ?_
  have nt8:uq con8:=by
   rcases hc with ⟨rfl,_⟩ | rfl
   ·exact L.neat
   ·exact Zy L.neat hne
  have lg9:∀ k,QI con8 k N (M.put i (some (Kw rs b w)) k):=fun k=>by
   rcases hc with ⟨rfl,ex⟩ | rfl
   ·refine er ex ?_
    have em:M.put i (some rs)=M:=funext fun k=>by
     unfold Mod.put
     by_cases z:k=i
     ·rw[if_pos z];refine er z ?_;refine er e ?_;rfl
     ·exact er (if_neg z) rfl
    refine er em ?_;exact L.logs k
   ·have:=k2e (i:=i) (rs:=Kw rs b w) (u:=[]) (N':=N) L.logs (Nat.le_refl _) lg8.msgs (by lia) (fun m=>nomatch m) (Nat.zero_le _) k
    rw[List.append_nil] at this;exact this
  refine k j8 con8 (M.put i (some (Kw rs b w))) _ _ (((Go.draw f7).trans (Go.deed a8)).trans (Go.mdl (D:=D.w j8) (Fr.refl.set (.inl rfl))))
   (L7.next a8 h8 ((kk.set (v:=.ref v) (K2b i)).of fun k=>ud (adr:=adr) (b:=v) (v:=some (Kw rs b w)) k) (fun p ts ep=>?_) nt8 lg9)
  unfold Mod.put at ep
  by_cases y:p=i
  ·rw[if_pos y] at ep;injection ep with ep;subst ep
   refine er (if_pos y) ?_
   exact ⟨a8.1.get nv8 gv7,LW.w a8 nv (Sto.has_of gv7)⟩
  ·rw[if_neg y] at ep
   obtain ⟨q1,q2⟩:=ad p ts ep
   refine er (if_neg y) ?_
   exact ⟨a8.1.get (fun q=>q2 (.inr (.inr (.inr q)))) q1,LW.w a8 q2 (Sto.has_of q1)⟩
 refine Ym h3 fun a2 σ4 n4 ha2 r4=>?_
 refine r4.ref.meth rfl ?_
 refine k1q r4 (h3.n n4) L.neat lg (fun j l con2 σ5 a5 h5 e5 hc lg5=>?_) fun e j l con2 σ5 z a5 h5 lf c=>?_
 ·refine last (Kw rs b w) j l con2 σ5 (.inr rfl) ((kJ.new n4).trans a5) h5 ?_ lg5
  rcases hc with ⟨rfl,_⟩ | rfl
  ·exact L.neat.tidy i
  ·exact (Zy L.neat hne).tidy i
 ·refine And.intro c ?_
  exact last rs j l con2 σ5 (.inl rfl) ((kJ.new n4).trans a5) h5 lf.2 lf.1
end
end
section
variable {K:Calls}
section
variable {σ σ' σ₁:Sto} {dk cl md:Addr} {D:Dk} {con con':Con} {M M':Mod} {t N N' n:Nat} {i:Fin 4} {Q:QV} {X:QX}
theorem LS.tabw (L:LS σ dk cl md D con M t N):LS (σ.upd Wt (.tab wa k4p)) dk cl md D con M t N:=by
 have f:Fr (·=Wt) σ (σ.upd Wt (.tab wa k4p)):=Fr.refl.set (.inl rfl)
 refine x22 L.mod fun kv adr g kk ad=>?_
 have nt:=L.deck.no_tab L.tab.1
 exact ⟨L.deck.fr f (fun q=>nt (.inl q.symm)) fun q=>nt (.inr q.symm),⟨kb,L.tab.2⟩,L.disk.frame f (fun a o q=>L.tab.2 (q▸o)) (fun q=>by
   have:=L.disk.obj.1;rw[q,L.tab.1] at this;cases this),
  ⟨kv,adr,f.get (fun q=>by rw[q,L.tab.1] at g;cases g) g,kk,fun p ts e=>⟨f.get (fun q=>by
   have:=(ad p ts e).1;rw[q,L.tab.1] at this;cases this) (ad p ts e).1,(ad p ts e).2⟩⟩,L.neat,L.logs,L.sep⟩
theorem k98 {P:Addr} {p:Pos} {q:PySem.Str} {R:V→Sto→Prop} (h:σ.get P=some (.tab p q)) (k:R .lam (σ.upd P (.tab p q))):(match σ.get P with | some (.tab p' q')=>p'=p∧q'=q∧R .lam (σ.upd P (.tab p q)) | _=>False):=by
 refine er h ?_;exact ⟨rfl,rfl,k⟩
theorem k7J {a lr:Addr} {way:Nat} {KK:QS} {XX:QXS} (L:LS σ dk cl md D con M t N) (ht:t≤80000) (hN:N≤50) (ra:k5z σ dk cl md D a)
  (gl:σ.get lr=some (.list (((M i).getD []).map Kg))) (nl:¬ LW dk cl md D lr)
  (k:∀ j con' M' σ' o8 o9 o10 o11 o12,Go dk cl md D σ j σ'→LS σ' dk cl md (D.w j) con' M' (t+3) N→KK none [some (.ref dk),some (.ref D.d),some (.ref md),some (.str (nmT i)),some (.int (way:Nat)),some (.ref lr),some (.ref a),none,o8,o9,o10,o11,o12,none] σ') :
  exs (K.C (n+9)) kU [
   .ite (.cmp .eq (.loc 4) (.cint 6))
    [
    .asgT [8,9] (.tup [(.bin .add (.cint 1000) (.callF kw [(.loc 0),(.cint 41)])),(.cmp .eq (.callF kw [(.loc 0),(.cint 2)]) (.cint 0))]),
    .asg 10 (.callF jR [(.loc 5),(.loc 8),(.loc 9)]),
    .asg 11 (.ife (.loc 9) (.lam Wt wa k4p) .cnone),
    .ite (.cmp .isin (.loc 3) (.loc 2))
     [
     .asg 12 (.imeth ko KS [99,111,112,121] (.loc 1) []),
     .setA ko [108,101,102,116] (.loc 12) (.callF kw [(.loc 0),(.cint 5)]),
     .tryE
      [
      .expr (.imeth kh kL [101,120,112,105,114,101] (.new kh [(.loc 12),(.cbytes [46,103,105,116,47,108,111,103,115]),(.cint 4)]) [(.loc 3),(.loc 8),(.loc 11)])] Qv none
      [
      .pass],
     .setA ko [108,101,102,116] (.loc 12) .cnone,
     .ite (.or (.cmp .notin (.callF kP [(.loc 12),(.loc 3)]) (.list [(.loc 5),(.loc 10)])) (.cmp .ne (.imeth kh kL [101,120,112,105,114,101] (.loc 6) [(.loc 3),(.loc 8),(.loc 11)]) (.bin .sub (.bi .len [(.loc 5)]) (.bi .len [(.loc 10)]))))
      [
      .ret (.cbool false)]
      [],
     .setI (.loc 2) (.loc 3) (.loc 10)]
     []]
    [
    .expr (.imeth kh kM [114,101,109,111,118,101] (.loc 6) [(.loc 3)]),
    .expr (.meth .dpop (.loc 2) [(.loc 3),.cnone])]]
   [some (.ref dk),some (.ref D.d),some (.ref md),some (.str (nmT i)),some (.int (way:Nat)),some (.ref lr),some (.ref a),none,none,none,none,none,none,none] σ KK XX:=by
 have lN:=L.len i
 refine Ku (b:=((way:Nat):Int)==6) (fun z9=>?_) (fun z9=>?_)
 ·refine JL (b:=41) L.deck (by lia) (by decide) (by decide) fun r1 σ1 h1 f1 d1=>?_
  refine JL (b:=2) d1 (by lia) (by decide) (by decide) fun r2 σ2 h2 f2 d2=>?_
  have f02:=f1.tr f2
  have L2:=L.draw f02 d2
  have dw:∀ {a},¬ LW dk cl md D a→¬ DW dk cl a:=fun h q=>h (q.elim .inl fun q=>.inr (.inl q))
  have gl2:=f02.get (dw nl) gl
  refine ZX (b:=(1000:Int)+(r1:Nat)) (w:=(((r2:Nat):Int)==0)) gl2 (by lia) fun v σ3 n3 hv gv=>?_
  generalize hb:(1000:Int)+(r1:Nat)=b at gv ⊢
  generalize hw:(((r2:Nat):Int)==0)=w at gv ⊢
  have nv:¬ LW dk cl md D v:=fun q=>hv.elim (fun e=>nl (e▸q)) fun h=>h (L2.has q)
  have L3:=L2.n n3
  have gl3:=n3.g gl2
  have f03:=f02.tn n3
  have ra3:=ra.fr f03 fun a q=>.inl (q.elim .inl fun q=>.inr (.inl q))
  have rest:∀ σ4,Fr (·=Wt) σ3 σ4→LS σ4 dk cl md D con M (t+2) N→exs (K.C (n+9)) kU [.ite (.cmp .isin (.loc 3) (.loc 2))
     [
     .asg 12 (.imeth ko KS [99,111,112,121] (.loc 1) []),
     .setA ko [108,101,102,116] (.loc 12) (.callF kw [(.loc 0),(.cint 5)]),
     .tryE
      [
      .expr (.imeth kh kL [101,120,112,105,114,101] (.new kh [(.loc 12),(.cbytes [46,103,105,116,47,108,111,103,115]),(.cint 4)]) [(.loc 3),(.loc 8),(.loc 11)])] Qv none
      [
      .pass],
     .setA ko [108,101,102,116] (.loc 12) .cnone,
     .ite (.or (.cmp .notin (.callF kP [(.loc 12),(.loc 3)]) (.list [(.loc 5),(.loc 10)])) (.cmp .ne (.imeth kh kL [101,120,112,105,114,101] (.loc 6) [(.loc 3),(.loc 8),(.loc 11)]) (.bin .sub (.bi .len [(.loc 5)]) (.bi .len [(.loc 10)]))))
      [
      .ret (.cbool false)]
      [],
     .setI (.loc 2) (.loc 3) (.loc 10)]
     []] [some (.ref dk),some (.ref D.d),some (.ref md),some (.str (nmT i)),some (.int (way:Nat)),some (.ref lr),some (.ref a),none,some (.int b),some (.bool w),some (.ref v),some (Jg w),none,none] σ4 KK XX:=by
   intro σ4 f4 L4
   have go4:Go dk cl md D σ D.inn σ4:=(Go.draw f03).trans (Go.tab f4)
   have nt:∀ {x:List V} {a:Addr},σ3.get a=some (.list x)→¬ a=Wt:=fun g q=>by rw[q,L3.tab.1] at g;cases g
   have gl4:=f4.get (nt gl3) gl3
   have gv4:=f4.get (nt gv) gv
   have ra4:k5z σ4 dk cl md D a:=by
    refine x12 ra3 ?_;clear ra3;intro d m q1 q2
    exact ⟨d,m.fr f4 (fun q=>by have:=m.1;rw[q,L3.tab.1] at this;cases this) (fun q=>by have:=m.2.1;rw[q,L3.tab.1] at this;cases this),q1,q2⟩
   refine x22 L4.mod fun kv adr g kk ad=>?_
   refine QY (k:=.str (nmT i)) g ?_
   cases e:M i with
   | none =>
    refine JH (b:=(kE kv (.str (nmT i))).isSome) (by refine er kk.get ?_;rw[Qm,e];rfl) ?_
    exact k D.inn con M σ4 _ _ _ _ _ go4 (L4.le (by lia) (Nat.le_refl _))
   | some rs =>
    refine k07 (b:=(kE kv (.str (nmT i))).isSome) (by refine er kk.get ?_;rw[Qm,e];rfl) ?_
    rw[e] at gl4 gv4
    refine k2U (b:=b) (w:=w) L4 hN (by lia) e ra4 gl4 nl gv4 nv fun j con' M' o12 σ5 go5 L5=>?_
    exact k j con' M' σ5 _ _ _ _ _ (go4.trans go5) L5
  cases w with
  | false =>
   exact rest σ3 .refl L3
  | true =>
   refine k98 L3.tab.1 ?_
   exact rest _ (Fr.refl.set (.inl rfl)) L3.tabw
 ·refine K03 (n:=n+4) (ρ:=[]) L ra fun j con' M' σ' go L'=>?_
  exact k j con' M' σ' _ _ _ _ _ go (L'.le (by lia) (Nat.le_refl _))
theorem ut (L:LS σ dk cl md D con M t N) (ht:t≤70000) (hN:N≤40)
  (k:∀ j con' M' σ',Go dk cl md D σ j σ'→LS σ' dk cl md (D.w j) con' M' (t+50) (N+1)→Q (.bool true) σ'):K.C (n+10) jc [.ref dk,.ref D.d,.ref md] σ Q X:=by
 refine kj qp [some (.ref dk),some (.ref D.d),some (.ref md),none,none,none,none,none,none,none,none,none,none,none] rfl rfl ?_
 refine k1g fun r1 σ1 n1 hr1 gr1=>?_
 have L1:=L.n n1
 refine uv L1.deck (by lia) gr1 (fun q=>hr1 (L.has (q.elim .inl fun q=>.inr (.inl q)))) (by decide) (by decide) fun z v σ2 ev f2 d2=>?_
 obtain ⟨i,rfl⟩:=k5d ev
 have L2:=L1.draw f2 d2
 refine JL (b:=8) L2.deck (by lia) (by decide) (by decide) fun way σ3 hw f3 d3=>?_
 have L3:=L2.draw f3 d3
 have f03:=(Fr.nt n1 f2).tr f3
 refine kK L3.isFor.1 ?_
 refine fun r4 hr4=>?_
 refine K09 L3 hr4 fun lr gl nl=>?_
 have n4:New σ3 (σ3.upd r4 (.list [])):=Fr.refl.new hr4
 have L4:=L3.n n4
 have f04:=f03.tn n4
 generalize σ3.upd r4 (.list [])=σ4 at n4 L4 f04 gl ⊢
 refine k0H L4 fun a σ5 n5 ha ra=>?_
 have L5:=L4.n n5
 have f05:=f04.tn n5
 have gl5:=n5.g gl
 have go5:Go dk cl md D σ D.inn σ5:=Go.draw f05
 have fin:∀ {j con' M' t' N' σ6 o4 o5 o6 o7 o8 o9 o10 o11 o12 o13},Go dk cl md D σ5 j σ6→LS σ6 dk cl md (D.w j) con' M' t' N'→t'≤t+45→N'≤N+1→_:=fun {j con' M' t' N' σ6 o4 o5 o6 o7 o8 o9 o10 o11 o12 o13} go6 L6 h1 h2 =>
  k9U (K:=K) (n:=n+3) (X:=X) (Q:=Q) (i:=i) (o4:=o4) (o5:=o5) (o6:=o6) (o7:=o7) (o8:=o8) (o9:=o9) (o10:=o10) (o11:=o11) (o12:=o12) (o13:=o13) L6 (by lia) (by lia) fun σ7 f7 L7=>k j con' M' σ7 ((go5.trans go6).trans (Go.draw (D:=D.w j) f7)) (L7.le (by lia) h2)
 refine Ku (b:=decide (((way:Nat):Int)<5)) (fun z9=>?_) (fun z9=>?_)
 ·refine Zw (i:=i) L5 (by lia) (by lia) fun j con' M' σ6 go6 L6=>?_
  exact fin (j:=j) go6 L6 (by lia) (Nat.le_refl _)
 refine Ku (b:=((way:Nat):Int)==5) (fun z9=>?_) (fun z9=>?_)
 ·refine fun u hu=>?_
  have nu:New σ5 (σ5.upd u (.list [])):=Fr.refl.new hu
  refine QJ (nu.g gl5) kb ?_
  have L6:=L5.n nu
  have gl6:=nu.g gl5
  generalize σ5.upd u (.list [])=σ6 at nu L6 gl6 ⊢
  refine Ku (b := !(((M i).getD []).map Kg).isEmpty) (fun y=>?_) (fun y=>?_)
  ·cases e:M i with
   | none=>rw[e] at y;injection y
   | some rs =>
    refine K0U (n:=n+5) L6 (by lia) (by lia) e fun j con' M' o7 σ7 go7 L7=>?_
    exact fin (j:=j) ((Go.new nu).trans go7) L7 (by lia) (Nat.le_refl _)
  ·refine k7J L6 (by lia) (by lia) (ra.fr nu fun z9 q=>q.elim) gl6 nl fun j con' M' σ7 o8 o9 o10 o11 o12 go7 L7=>?_
   exact fin (j:=j) ((Go.new nu).trans go7) L7 (by lia) (Nat.le_succ _)
 ·refine k7J L5 (by lia) (by lia) ra gl5 nl fun j con' M' σ7 o8 o9 o10 o11 o12 go7 L7=>?_
  exact fin (j:=j) go7 L7 (by lia) (Nat.le_succ _)
end
end
section
variable {K:Calls}
theorem k45:∀ k:Fin 110,(Kh ((k.val:Int)-1)).length≤1000:=by decide +kernel
theorem k8p:∀ k:Fin 50,(Kh ((999+k.val:Nat):Int)).length≤1000:=by decide +kernel
theorem k4r {p:Rec→Bool} {rs:List Rec}:rs.reverse.find? p=(rs.filter p).getLast?:=by
 exact er (Eq.symm (List.head?_filter)) (er List.filter_reverse (er (List.head?_reverse) rfl))
noncomputable def k2k (f:Bool) (rs:List Rec) (m:Int) (nm:Tx):V:=(if f then ju rs m else qb rs m).getD (.str (YX nm m))
theorem k6P (f:Bool) (rs:List Rec) (m:Int) (nm:Tx):(∃ b,k2k f rs m nm=.bytes b)∨∃ s,k2k f rs m nm=.str s:=by
 unfold k2k
 cases f with
 | true =>
  refine er (if_pos rfl) ?_;unfold ju
  split
  ·exact .inl ⟨_,rfl⟩
  ·by_cases z:rs=[]
   ·refine er (if_pos z) ?_;exact .inr ⟨_,rfl⟩
   ·refine er (if_neg z) ?_;exact .inl ⟨_,rfl⟩
 | false =>
  refine er (if_neg Bool.false_ne_true) ?_;unfold qb
  by_cases z:0≤m∧m<rs.length
  ·refine er (if_pos z) ?_;exact .inl ⟨_,rfl⟩
  ·refine er (if_neg z) ?_
   by_cases y:m=rs.length∧rs≠[]∧(rs.getD 0 dR).o≠0
   ·refine er (if_pos y) ?_;exact .inl ⟨_,rfl⟩
   ·refine er (if_neg y) ?_;exact .inr ⟨_,rfl⟩
section
variable {σ σ' σ₁:Sto} {dk cl md:Addr} {D:Dk} {con con':Con} {M M':Mod} {t N N' n:Nat} {i:Fin 4} {Q:QV} {X:QX} {rs:List Rec} {lr:Addr}
theorem k3F {e:IE} {m:Int} {f:Bool} {o4 o5 o7 o8:Option V} {KK:QS} {XX:QXS} (L:LS σ dk cl md D con M t N) (hN:N≤100) (hm:m.natAbs<10^10) (hl:(Kh m).length≤1000)
  (h:∀ σ Q,Q (.int m) σ→evM (K.C (n+7)) kU e [some (.ref dk),some (.ref D.d),some (.ref md),some (.str (nmT i)),o4,o5,some (k2k f ((M i).getD []) m (nmT i)),o7,o8] σ (.inl Q) (XX [some (.ref dk),some (.ref D.d),some (.ref md),some (.str (nmT i)),o4,o5,some (k2k f ((M i).getD []) m (nmT i)),o7,o8]))
  (k:∀ σ',New σ σ'→KK none [some (.ref dk),some (.ref D.d),some (.ref md),some (.str (nmT i)),o4,o5,some (k2k f ((M i).getD []) m (nmT i)),o7,o8] σ') :
  exs (K.C (n+7)) kU [.ite (.cmp .ne (.callF KR [(.loc 1),(.loc 3),e,(.cbool f)]) (.loc 6)) [.ret (.cbool false)] []]
   [some (.ref dk),some (.ref D.d),some (.ref md),some (.str (nmT i)),o4,o5,some (k2k f ((M i).getD []) m (nmT i)),o7,o8] σ KK XX:=by
 refine h _ _ ?_
 refine k5G (f:=f) L.disk (L.neat.tidy i) (L.logIs hN i) hm hl fun σ1 n1=>?_
 refine er (show (if f=true then ju ((M i).getD []) m else qb ((M i).getD []) m).getD (.str (YX (nmT i) m))=k2k f ((M i).getD []) m (nmT i) from rfl) ?_
 have t:=k σ1 n1
 rcases k6P f ((M i).getD []) m (nmT i) with ⟨b,e⟩ | ⟨b,e⟩
 ·rw[e] at t ⊢
  refine And.intro rfl ?_
  refine JH (b := !(b==b)) (by refine er (beq_self_eq_true _) ?_;rfl) ?_
  exact t
 ·rw[e] at t ⊢
  refine And.intro rfl ?_
  refine JH (b := !(b==b)) (by refine er (beq_self_eq_true _) ?_;rfl) ?_
  exact t
theorem WS {j:Int} {p:Nat} {Q:QV} (g:σ.get lr=some (.list (rs.map Kg))) (l:rs.length≤100) (hj:KI j) (hp:qA j rs.length=some p) (lp:p<rs.length) (q:Q (Kg (rs.getD p dR)) σ):YH (.ref lr) (.int j) σ Q:=by
 refine YF g hj (p:=p) (by refine er (List.length_map _) ?_;exact hp) ?_
 refine er (List.getD_eq_getElem?_getD) ?_;refine er (List.getElem?_map) ?_;refine er (List.getElem?_eq_getElem lp) ?_
 rw[List.getD_eq_getElem?_getD,List.getElem?_eq_getElem lp] at q
 exact q
theorem Up {k:Nat} (h:0<k):qA 0 k=some 0:=by
 unfold qA;refine er (if_pos (by decide)) (er (if_pos (by omega)) ?_);rfl
theorem k6s {ρ:Loc} {R:Bool→Sto→Prop} {XX:QX} (g:σ.get lr=some (.list (rs.map Kg))) (l:rs.length≤100) (h0:0<rs.length) (h4:ρ[4]?=some (some (.ref lr)))
  (k:∀ σ',New σ σ'→R (!decide ((rs.getD 0 dR).o=0)) σ'):evM (K.C (n+1)) kU (.cmp .ne (.sub (.sub (.loc 4) (.cint 0)) (.cint 0)) (.callF KM [(.cint 0)])) ρ σ (.inr R) XX:=by
 show match ρ[4]? with | some (some v)=>_ | _=>False
 refine er h4 ?_
 refine WS g l (by unfold KI;decide) (Up h0) h0 ?_
 refine k5P (o:=0) fun σ1 n1=>?_
 refine And.intro rfl ?_
 have t:=k σ1 n1
 rw[← qG] at t;exact t
end
end
section
variable {K:Calls}
section
variable {σ σ' σ₁:Sto} {dk cl md:Addr} {D:Dk} {con con':Con} {M M':Mod} {t N N' n:Nat} {i:Fin 4} {Q:QV} {X:QX} {rs:List Rec} {lr:Addr}
noncomputable abbrev K2j (j:Nat):IE:=.bin .add (.bin .add (.bin .add (.loc 3) (.cstr [64,123])) (.bi .str [(.loc j)])) (.cstr [125])
theorem K1F {m:Int} {o6 o7 o8:Option V} {KK:QS} {XX:QXS} (L:LS σ dk cl md D con M t N) (hN:N≤100) (g:σ.get lr=some (.list (((M i).getD []).map Kg))) (h1 : -1≤m) (h2:m≤105)
  (k:∀ o6 σ',New σ σ'→KK none [some (.ref dk),some (.ref D.d),some (.ref md),some (.str (nmT i)),some (.ref lr),some (.int m),o6,o7,o8] σ') :
  exs (K.C (n+7)) kU [.asg 6 (K2j 5),
  .ite (.cmp2 .le .lt (.cint 0) (.loc 5) (.bi .len [(.loc 4)]))
   [
   .asg 6 (.sub (.sub (.loc 4) (.bin .sub (.neg (.cint 1)) (.loc 5))) (.cint 1))]
   [
   .ite (.and (.cmp .eq (.loc 5) (.bi .len [(.loc 4)])) (.and (.cmp .ne (.loc 4) (.list [])) (.cmp .ne (.sub (.sub (.loc 4) (.cint 0)) (.cint 0)) (.callF KM [(.cint 0)]))))
    [
    .asg 6 (.sub (.sub (.loc 4) (.cint 0)) (.cint 0))]
    []],
  .ite (.cmp .ne (.callF KR [(.loc 1),(.loc 3),(.loc 5),(.cbool false)]) (.loc 6))
   [
   .ret (.cbool false)]
   []] [some (.ref dk),some (.ref D.d),some (.ref md),some (.str (nmT i)),some (.ref lr),some (.int m),o6,o7,o8] σ KK XX:=by
 have lN:=L.len i
 have hl:(Kh m).length≤1000:=by
  have:=k45 ⟨(m+1).toNat,by omega⟩
  rw[show (((⟨(m+1).toNat,by omega⟩:Fin 110).val:Int)-1)=m by show (((m+1).toNat:Nat):Int)-1=m;omega] at this
  exact this
 have hm:m.natAbs<10^10:=by omega
 have fin:∀ v σ',New σ σ'→v=k2k false ((M i).getD []) m (nmT i)→exs (K.C (n+7)) kU [.ite (.cmp .ne (.callF KR [(.loc 1),(.loc 3),(.loc 5),(.cbool false)]) (.loc 6)) [.ret (.cbool false)] []]
   [some (.ref dk),some (.ref D.d),some (.ref md),some (.str (nmT i)),some (.ref lr),some (.int m),some v,o7,o8] σ' KK XX:=fun v σ' n' e=>by
  subst e
  exact k3F (e:=.loc 5) (f:=false) (L.n n') hN hm hl (fun z9 z9 q=>q) fun σ'' n''=>k _ σ'' (n'.tr n'')
 generalize hrs:(M i).getD []=rs at g lN fin
 refine yR hm hl ?_
 have l100:rs.length≤100:=by omega
 have ll:((rs.map Kg).length:Int)=rs.length:=by refine er (List.length_map _) ?_;rfl
 have none_:∀ σ',New σ σ'→qb rs m=none→exs (K.C (n+7)) kU [.ite (.cmp .ne (.callF KR [(.loc 1),(.loc 3),(.loc 5),(.cbool false)]) (.loc 6)) [.ret (.cbool false)] []]
   [some (.ref dk),some (.ref D.d),some (.ref md),some (.str (nmT i)),some (.ref lr),some (.int m),some (.str (YX (nmT i) m)),o7,o8] σ' KK XX:=fun σ' n' z=>fin _ σ' n' (by unfold k2k;rw[if_neg Bool.false_ne_true];refine er z ?_;rfl)
 have second:¬ (0≤m∧m<rs.length)→exs (K.C (n+7)) kU [.ite (.and (.cmp .eq (.loc 5) (.bi .len [(.loc 4)])) (.and (.cmp .ne (.loc 4) (.list [])) (.cmp .ne (.sub (.sub (.loc 4) (.cint 0)) (.cint 0)) (.callF KM [(.cint 0)]))))
    [
    .asg 6 (.sub (.sub (.loc 4) (.cint 0)) (.cint 0))]
    [],.ite (.cmp .ne (.callF KR [(.loc 1),(.loc 3),(.loc 5),(.cbool false)]) (.loc 6)) [.ret (.cbool false)] []]
   [some (.ref dk),some (.ref D.d),some (.ref md),some (.str (nmT i)),some (.ref lr),some (.int m),some (.str (YX (nmT i) m)),o7,o8] σ KK XX:=fun c1=>by
  refine jN g (ky (by refine er (List.length_map _) ?_;omega)) ?_
  refine Ku (b:=m==((rs.map Kg).length:Nat)) (fun z=>?_) (fun z=>?_)
  ·have em:m=rs.length:=(eq_of_beq z).trans ll
   refine fun t ht=>?_
   have nt:New σ (σ.upd t (.list [])):=Fr.refl.new ht
   refine QJ (nt.g g) kb ?_
   refine Ku (b := !(rs.map Kg).isEmpty) (fun y=>?_) (fun y=>?_)
   ·have rn:rs≠[]:=fun q=>by rw[q] at y;injection y
    have l0:0<rs.length:=List.length_pos_iff.2 rn
    refine k6s (nt.g g) l100 l0 rfl fun σ2 n2=>?_
    have nn:=nt.tr n2
    refine Ku (b := !decide ((rs.getD 0 dR).o=0)) (fun x=>?_) (fun x=>?_)
    ·have x':(rs.getD 0 dR).o≠0:=fun q=>by rw[decide_eq_true q] at x;injection x
     refine WS (nn.g g) l100 (by unfold KI;decide) (Up l0) l0 ?_
     refine fin _ σ2 nn ?_
     unfold k2k;rw[if_neg Bool.false_ne_true];unfold qb;rw[if_neg c1,if_pos ⟨em,rn,x'⟩];rfl
    ·refine none_ σ2 nn ?_
     unfold qb;rw[if_neg c1,if_neg fun q=>q.2.2 (by cases w:decide ((rs.getD 0 dR).o=0) with | true=>exact of_decide_eq_true w | false=>rw[w] at x;injection x)]
   ·have rn:rs=[]:=by cases rs with | nil=>rfl | cons _ _=>injection y
    refine none_ _ nt ?_
    unfold qb;rw[if_neg c1,if_neg fun q=>q.2.1 rn]
  ·refine none_ σ .refl ?_
   unfold qb;rw[if_neg c1,if_neg fun q=>ne_of_beq_false z (q.1.trans ll.symm)]
 refine Ku (b:=decide ((0:Int)≤m)) (fun z=>?_) (fun z=>?_)
 ·refine jN g (ky (by refine er (List.length_map _) ?_;omega)) ?_
  refine Ku (b:=decide (m<((rs.map Kg).length:Nat))) (fun y=>?_) (fun y=>?_)
  ·have z':=of_decide_eq_true z
   have y':=of_decide_eq_true y
   rw[ll] at y'
   refine WS (p:=rs.length-1-m.toNat) g l100 (by unfold KI;omega) (k2C z' y') (k4Z z' y') ?_
   refine fin _ σ .refl ?_
   unfold k2k;refine er (if_neg Bool.false_ne_true) ?_;unfold qb;refine er (if_pos ⟨z',y'⟩) ?_;rfl
  ·exact second fun q=>of_decide_eq_false y (by refine er ll ?_;exact q.2)
 ·exact second fun q=>of_decide_eq_false z q.1
end
end
section
variable {K:Calls}
section
variable {σ σ' σ₁:Sto} {dk cl md:Addr} {D:Dk} {con con':Con} {M M':Mod} {t N N' n:Nat} {i:Fin 4} {Q:QV} {X:QX} {rs:List Rec} {lr:Addr}
theorem K1D {m:Int} {o5 o6 o8:Option V} {KK:QS} {XX:QXS} (L:LS σ dk cl md D con M t N) (hN:N≤100) (g:σ.get lr=some (.list (((M i).getD []).map Kg))) (h1:999≤m) (h2:m≤1040)
  (k:∀ o6 o8 σ',New σ σ'→KK none [some (.ref dk),some (.ref D.d),some (.ref md),some (.str (nmT i)),some (.ref lr),o5,o6,some (.int m),o8] σ') :
  exs (K.C (n+7)) kU [.asg 8 (.comp [7] (.e (.loc 4)) (some (.cmp .le (.sub (.loc 0) (.cint 4)) (.loc 1))) (.sub (.loc 0) (.cint 1))),
  .asg 6 (K2j 7),
  .ite (.cmp .ne (.loc 8) (.list []))
   [
   .asg 6 (.sub (.loc 8) (.neg (.cint 1)))]
   [
   .ite (.cmp .ne (.loc 4) (.list []))
    [
    .asg 6 (.ife (.cmp .ne (.sub (.sub (.loc 4) (.cint 0)) (.cint 0)) (.callF KM [(.cint 0)])) (.sub (.sub (.loc 4) (.cint 0)) (.cint 0)) (.sub (.sub (.loc 4) (.cint 0)) (.cint 1)))]
    []],
  .ite (.cmp .ne (.callF KR [(.loc 1),(.loc 3),(.loc 7),(.cbool true)]) (.loc 6))
   [
   .ret (.cbool false)]
   []] [some (.ref dk),some (.ref D.d),some (.ref md),some (.str (nmT i)),some (.ref lr),o5,o6,some (.int m),o8] σ KK XX:=by
 have lN:=L.len i
 have hl:(Kh m).length≤1000:=by
  have:=k8p ⟨(m-999).toNat,by lia⟩
  rw[show (((999+(⟨(m-999).toNat,by lia⟩:Fin 50).val:Nat)):Int)=m by show ((999+(m-999).toNat:Nat):Int)=m;lia] at this
  exact this
 have hm:m.natAbs<10^10:=by lia
 have fin:∀ v o8 σ',New σ σ'→v=k2k true ((M i).getD []) m (nmT i)→exs (K.C (n+7)) kU [.ite (.cmp .ne (.callF KR [(.loc 1),(.loc 3),(.loc 7),(.cbool true)]) (.loc 6)) [.ret (.cbool false)] []]
   [some (.ref dk),some (.ref D.d),some (.ref md),some (.str (nmT i)),some (.ref lr),o5,some v,some (.int m),o8] σ' KK XX:=fun v o8 σ' n' e=>by
  subst e
  exact k3F (e:=.loc 7) (f:=true) (L.n n') hN hm hl (fun z9 z9 q=>q) fun σ'' n''=>k _ _ σ'' (n'.tr n'')
 generalize hrs:(M i).getD []=rs at g lN fin
 have l100:rs.length≤100:=by lia
 have dT:k2k true rs m (nmT i)=(ju rs m).getD (.str (YX (nmT i) m)):=rfl
 refine Kj g (ky (by refine er (List.length_map _) ?_;lia)) ?_
 refine qd (g:=some lr) (f:=fun r=>V.bytes (jj r.n)) (QD m) (fun z9 e=>by injection e with e;refine er (Eq.symm e) ?_;exact Sto.has_of g) (ky (by lia)) (fun y z9 σ' nw KK k kn=>?_) (fun σ1 s nw hs=>?_)
 ·refine Ku (b:=decide (((1000+y.w.val:Nat):Int)≤m)) (fun z=>?_) (fun z=>kn z _ .refl)
  exact k z _ .refl
 ·have fl:=List.length_filter_le (QD m) rs
  have ns:New σ (σ1.upd s (.list ((rs.filter (QD m)).map fun r=>V.bytes (jj r.n)))):=nw.new hs
  have gs:(σ1.upd s (.list ((rs.filter (QD m)).map fun r=>V.bytes (jj r.n)))).get s=some (.list ((rs.filter (QD m)).map fun r=>V.bytes (jj r.n))):=kb
  have g2:=ns.g g
  generalize σ1.upd s (.list ((rs.filter (QD m)).map fun r=>V.bytes (jj r.n)))=σ2 at ns gs g2 ⊢
  refine yR hm hl ?_
  refine fun u hu=>?_
  have nu:New σ2 (σ2.upd u (.list [])):=Fr.refl.new hu
  refine QJ (nu.g gs) kb ?_
  have n3:=ns.tr nu
  have gs3:=nu.g gs
  have g3:=nu.g g2
  generalize σ2.upd u (.list [])=σ3 at nu n3 gs3 g3 ⊢
  have fd:=k4r (p:=QD m) (rs:=rs)
  refine Ku (b := !((rs.filter (QD m)).map fun r=>V.bytes (jj r.n)).isEmpty) (fun y=>?_) (fun y=>?_)
  ·rcases List.eq_nil_or_concat (rs.filter (QD m)) with en | ⟨l',z,en⟩
   ·rw[en] at y;injection y
   ·rw[List.concat_eq_append] at en
    rw[en] at gs3 fd fl
    rw[List.getLast?_concat] at fd
    rw[List.map_append] at gs3
    rw[List.length_append] at fl
    replace fl:l'.length+1≤rs.length:=fl
    refine YF gs3 (by unfold KI;decide) (p:=l'.length) (by
     show (if (0:Int) ≤ -1 then _ else if (0:Int) ≤ -1+((l'.map (fun r=>V.bytes (jj r.n))++[z].map fun r=>V.bytes (jj r.n)).length:Nat) then some (-1+((l'.map (fun r=>V.bytes (jj r.n))++[z].map fun r=>V.bytes (jj r.n)).length:Nat):Int).toNat else none)=_
     rw[if_neg (by decide)];refine er List.length_append ?_;refine er (List.length_map _) ?_;rw[show ([z].map fun r=>V.bytes (jj r.n)).length=1 from rfl,if_pos (by lia)]
     exact congrArg some (by lia)) ?_
    refine er (show (l'.map (fun r=>V.bytes (jj r.n))++[z].map fun r=>V.bytes (jj r.n)).getD l'.length V.none=V.bytes (jj z.n) by rw[List.getD_eq_getElem?_getD,List.getElem?_append_right (by rw[List.length_map];exact Nat.le_refl _),List.length_map,Nat.sub_self];rfl) ?_
    exact fin _ _ σ3 n3 (by refine er dT ?_;unfold ju;refine er fd ?_;rfl)
  ·have en:rs.filter (QD m)=[]:=by cases h:rs.filter (QD m) with | nil=>rfl | cons _ _=>rw[h] at y;injection y
   rw[en] at fd
   replace fd:rs.reverse.find? (QD m)=none:=fd
   refine fun v hv=>?_
   have nv:New σ3 (σ3.upd v (.list [])):=Fr.refl.new hv
   refine QJ (nv.g g3) kb ?_
   have n4:=n3.tr nv
   have g4:=nv.g g3
   generalize σ3.upd v (.list [])=σ4 at nv n4 g4 ⊢
   refine Ku (b := !(rs.map Kg).isEmpty) (fun x=>?_) (fun x=>?_)
   ·have rn:rs≠[]:=fun q=>by rw[q] at x;injection x
    have l0:0<rs.length:=List.length_pos_iff.2 rn
    refine WS g4 l100 (by unfold KI;decide) (Up l0) l0 ?_
    refine k5P (o:=0) fun σ5 n5=>?_
    refine And.intro rfl ?_
    have td:ju rs m=some (.bytes (jj (if (rs.getD 0 dR).o=0 then (rs.getD 0 dR).n else (rs.getD 0 dR).o))):=by unfold ju;refine er fd ?_;exact if_neg rn
    refine Ku (b := !(jj (rs.getD 0 dR).o==[0,0,0,0])) (fun w=>?_) (fun w=>?_)
    ·rw[qG] at w
     have w':(rs.getD 0 dR).o≠0:=fun q=>by rw[decide_eq_true q] at w;injection w
     refine WS (n5.g g4) l100 (by unfold KI;decide) (Up l0) l0 ?_
     exact fin _ _ σ5 (n4.tr n5) (by refine er dT (er td (er (if_neg w') ?_));rfl)
    ·rw[qG] at w
     have w':(rs.getD 0 dR).o=0:=by cases q:decide ((rs.getD 0 dR).o=0) with | true=>exact of_decide_eq_true q | false=>rw[q] at w;injection w
     refine WS (n5.g g4) l100 (by unfold KI;decide) (Up l0) l0 ?_
     exact fin _ _ σ5 (n4.tr n5) (by refine er dT (er td (er (if_pos w') ?_));rfl)
   ·have rn:rs=[]:=by cases rs with | nil=>rfl | cons _ _=>injection x
    exact fin _ _ σ4 n4 (by refine er dT ?_;unfold ju;refine er fd ?_;show _=(if rs=[] then none else _:Option V).getD _;refine er (if_pos rn) ?_;rfl)
theorem k7f {call:jH} {init:Addr→Option Addr} {e1 e2:IE} {j:Nat} {body r:List IS} {ρ:Loc} {QQ:QS} {XX:QXS} {a b:Int} (h1:∀ Q,Q (.int a) σ→evM call init e1 ρ σ (.inl Q) (XX ρ)) (h2:∀ Q,Q (.int b) σ→evM call init e2 ρ σ (.inl Q) (XX ρ)) (hb : -1000≤a∧a≤1000000 ∧ -1000≤b∧b≤1000000)
  (k:KU none σ (fun x ρ σ K=>exs call init body (ρ.put j x) σ K (fun z9 z9 z9=>False)) (Kf a b 1) ρ σ (fun o ρ σ=>match o with
   | none=>exs call init r ρ σ QQ XX
   | some v=>QQ (some v) ρ σ)):exs call init (.for1 j (.range [e1,e2]) body::r) ρ σ QQ XX:=by
 refine h1 _ ?_
 refine h2 _ ?_
 refine kN (x:=Kf a b 1) (if_pos hb) ?_
 exact k
theorem k9p {a b:Int} (h:b≤106):∀ x∈Kf a b 1,∃ m:Int,x=.int m∧a≤m∧m≤105:=fun x m=>by
 unfold Kf at m
 refine x11 (List.mem_map.1 m) fun j mj zr2=>?_;subst zr2
 have:=List.mem_range.1 mj
 by_cases z:a<b
 ·rw[if_pos z,Int.ediv_one,Int.sub_add_cancel] at this
  have t:=Int.lt_toNat.1 this
  exact ⟨_,rfl,by rw[Int.mul_one];omega,by rw[Int.mul_one];omega⟩
 ·rw[if_neg z] at this;exact nomatch this
theorem ZB (L:LS σ dk cl md D con M t N) (hN:N≤100) (ht:t≤90000) (k:∀ σ',Fr (DW dk cl) σ σ'→Q (.bool true) σ'):K.C (n+8) Kl [.ref dk,.ref D.d,.ref md,.str (nmT i)] σ Q X:=by
 have lN:=L.len i
 refine kj JJ [some (.ref dk),some (.ref D.d),some (.ref md),some (.str (nmT i)),none,none,none,none,none] rfl rfl ?_
 refine kK L.isFor.1 ?_
 refine fun r hr=>?_
 refine K09 L hr fun lr gl nl=>?_
 have n1:New σ (σ.upd r (.list [])):=Fr.refl.new hr
 have L1:=L.n n1
 generalize σ.upd r (.list [])=σ1 at n1 L1 gl ⊢
 have ll:(((M i).getD []).map Kg).length≤100:=by refine er (List.length_map _) ?_;lia
 refine k7f (a := -1) (b:=((((M i).getD []).map Kg).length:Nat)+2) (fun z9 q=>q) (fun z9 q=>jN gl (ky (by lia)) q) (by lia) ?_
 have rm:=k9p (a := -1) (b:=((((M i).getD []).map Kg).length:Nat)+2) (by lia)
 refine k9m (g:=none) (fun (o:Option V×Option V)=>[some (.ref dk),some (.ref D.d),some (.ref md),some (.str (nmT i)),some (.ref lr),o.1,o.2,none,none]) (fun z9=>New σ1) (fun z9 z9 z9=>trivial) (fun x mx o σ' nw KK k' z9=>?_) (fun o σ2 nw=>?_) (_,_) .refl
 ·refine x12 (rm x mx) fun m zr1 h1 h2=>?_;subst zr1
  refine K1F (L1.n nw) hN (nw.g gl) h1 h2 fun o6 σ3 n3=>?_
  exact k' (_,_) _ _ rfl (nw.tr n3)
 ·have L2:=L1.n nw
  refine JL (b:=40) L2.deck (by lia) (by decide) (by decide) fun r3 σ3 h3 f3 d3=>?_
  have L3:=L2.draw f3 d3
  have gl3:=f3.get (fun q=>nl (q.elim .inl fun q=>.inr (.inl q))) (nw.g gl)
  refine fun s hs=>?_
  have n4:New σ3 (σ3.upd s (.list [.int 999,.int (1000+(r3:Nat)),.int 1040])):=Fr.refl.new hs
  have gs:(σ3.upd s (.list [.int 999,.int (1000+(r3:Nat)),.int 1040])).get s=some (.list [.int 999,.int (1000+(r3:Nat)),.int 1040]):=kb
  have f04:Fr (DW dk cl) σ (σ3.upd s (.list [.int 999,.int (1000+(r3:Nat)),.int 1040])):=(Fr.nt (n1.tr nw) f3).tn n4
  have L4:=L3.n n4
  have gl4:=n4.g gl3
  generalize σ3.upd s (.list [.int 999,.int (1000+(r3:Nat)),.int 1040])=σ4 at n4 gs f04 L4 gl4 ⊢
  refine Kj gs (show 3≤kt by decide) ?_
  refine JM (g:=some s) (l:=[999,1000+(r3:Int),1040]) (h:=V.int) (fun (x:Option V×Option V×Option V)=>[some (.ref dk),some (.ref D.d),some (.ref md),some (.str (nmT i)),some (.ref lr),o.1,x.1,x.2.1,x.2.2]) (fun z9=>New σ4) (fun z9 σ' i=>i.u gs) (fun m mm x σ' nw KK k' z9=>?_) (fun x σ5 nw=>k σ5 (f04.tn nw)) (_,_,_) .refl
  have h12:999≤m∧m≤1040:=by
   rcases List.mem_cons.1 mm with mm | mm
   ·lia
   ·rcases List.mem_cons.1 mm with mm | mm
    ·lia
    ·refine er (List.mem_singleton.1 mm) ?_;decide
  refine K1D (L4.n nw) hN (nw.g gl4) h12.1 h12.2 fun o6 o8 σ5 n5=>?_
  exact k' (_,_,_) _ _ rfl (nw.tr n5)
end
end
section
variable {K:Calls}
section
variable {σ σ' σ₁:Sto} {dk cl md sc:Addr} {D:Dk} {con con':Con} {M M':Mod} {t N N' n:Nat} {i:Fin 4} {Q:QV} {X:QX} {ns:List Int}
theorem k2S {a:Addr} {xs:List V} {R:Bool→Prop} (g:σ.get a=some (.list xs)) (l:xs.length≤kt) (q:R (!xs.isEmpty)):ZT (.ref a) σ R:=by
 delta ZT;dsimp only;refine er g ?_;exact ⟨l,q⟩
theorem qmv {R:QV} {x:V} (h:R x σ):QM.v (.inl R) x σ:=h
theorem k87 (L:LS σ dk cl md D con M t N) (hN:N≤100) (ht:t≤80000) {o4:Option V} {v0:V} (k:∀ σ',Fr (DW dk cl) σ σ'→Q (.bool true) σ') :
  exs (K.C (n+8)) kU [.ite (.cmp .ne (.comp [2,3] (.e (.callF KG [])) (some (.cmp .ne (.callF kP [(.loc 1),(.loc 0)]) (.meth .dget (.loc 2) [(.loc 0),(.list [])]))) (.loc 0)) (.list []))
  [
  .ret (.cbool false)]
  [],
 .ret (.callF Kl [(.loc 1),(.loc 2),(.loc 3),(.callF Kq [(.loc 1),(.or (.comp [3] (.e (.callF KG [])) (some (.cmp .isin (.loc 0) (.loc 1))) (.loc 0)) (.list [(.cstr [72,69,65,68])]))])])]
  [some v0,some (.ref dk),some (.ref D.d),some (.ref md),o4] σ (fun o z9 σ=>Q (o.getD .none) σ) (fun z9 e σ=>X e σ):=by
 refine k1g fun p σ1 n1 hp gp=>?_
 have L1:=L.n n1
 refine Kj gp (show 4≤kt by decide) ?_
 refine qd (g:=some p) (l:=([0,1,2,3]:List (Fin 4))) (h:=fun j=>.str (nmT j)) (f:=fun j=>.str (nmT j)) (fun z9=>false) (fun z9 e=>by injection e with e;refine er (Eq.symm e) ?_;exact Sto.has_of gp) (by decide) (fun j z9 σ' nw KK k kn=>?_) (fun σ2 s nw hs=>?_)
 ·exact k3X (K:=K) (n:=n+2) (j:=j) (L1.n nw) hN (fun σ Q q=>q) (fun σ Q q=>q) (fun σ Q q=>q) fun σ4 n4=>kn rfl _ n4
 ·have n2:New σ (σ2.upd s (.list [])):=(n1.tr nw).new hs
  have gs:(σ2.upd s (.list [])).get s=some (.list []):=kb
  show QM.v _ (.ref s) (σ2.upd s (.list []))
  generalize σ2.upd s (.list [])=σ3 at n2 gs ⊢
  refine fun u hu=>?_
  have n4:New σ3 (σ3.upd u (.list [])):=Fr.refl.new hu
  refine QJ (n4.g gs) kb ?_
  have L4:=L.n (n2.tr n4)
  have n04:=n2.tr n4
  generalize σ3.upd u (.list [])=σ4 at n4 L4 n04 ⊢
  refine k1g fun p σ5 n5 hp gp=>?_
  have L5:=L4.n n5
  refine Kj gp (show 4≤kt by decide) ?_
  refine x22 L5.mod fun kv adr g kk ad=>?_
  refine qd (g:=some p) (l:=([0,1,2,3]:List (Fin 4))) (h:=fun j=>.str (nmT j)) (f:=fun j=>.str (nmT j)) (fun j=>(kE kv (.str (nmT j))).isSome) (fun z9 e=>by injection e with e;refine er (Eq.symm e) ?_;exact Sto.has_of gp) (by decide) (fun j z9 σ' nw KK k kn=>?_) (fun σ6 s nw hs=>?_)
  ·refine QY (k:=.str (nmT j)) (nw.g g) ?_
   exact Ku (b:=(kE kv (.str (nmT j))).isSome) (fun z=>k z _ .refl) (fun z=>kn z _ .refl)
  ·have ha:∀ x∈(([0,1,2,3]:List (Fin 4)).filter fun j=>(kE kv (.str (nmT j))).isSome).map fun j=>V.str (nmT j),∃ j:Fin 4,x=.str (nmT j):=fun x m=>by
    refine x11 (List.mem_map.1 m) fun j z9 e=>?_
    exact ⟨j,e.symm⟩
   have l:((([0,1,2,3]:List (Fin 4)).filter fun j=>(kE kv (.str (nmT j))).isSome).map fun j=>V.str (nmT j)).length≤4:=by
    refine er (List.length_map _) ?_;exact List.length_filter_le _ _
   generalize (([0,1,2,3]:List (Fin 4)).filter fun j=>(kE kv (.str (nmT j))).isSome).map (fun j=>V.str (nmT j))=acc at ha l ⊢
   have n7:New σ5 (σ6.upd s (.list acc)):=nw.new hs
   have gs:(σ6.upd s (.list acc)).get s=some (.list acc):=kb
   have n07:=(n04.tr n5).tr n7
   have hs0:¬ σ.has s:=((n04.tr n5).tr nw).nhas hs
   generalize σ6.upd s (.list acc)=σ7 at n7 gs n07 ⊢
   have fin:∀ {a:Addr} {xs:List V} {σ8:Sto} {XX:QX},New σ σ8→¬ σ.has a→σ8.get a=some (.list xs)→(∀ x∈xs,∃ j:Fin 4,x=.str (nmT j))→0<xs.length→xs.length≤4→(XX=fun e σ=>X e σ) →
     K.C (n+8) Kq [.ref dk,.ref a] σ8 (fun v σ=>K.C (n+8) Kl [.ref dk,.ref D.d,.ref md,v] σ (fun v σ=>Q v σ) XX) XX:=by
    intro a xs σ8 XX n8 ha8 g8 hx l0 l4 ex
    have L8:=L.n n8
    refine uv L8.deck (by lia) g8 (fun q=>ha8 (L.has (q.elim .inl fun q=>.inr (.inl q)))) l0 (by lia) fun r v σ9 ev f9 d9=>?_
    obtain ⟨j,rfl⟩:=hx v (List.mem_of_getElem? ev)
    exact ZB (L8.draw f9 d9) hN (by lia) fun σ10 f10=>k σ10 ((Fr.nt n8 f9).tr f10)
   refine qmv ?_
   refine k2S gs (ky (by lia)) ?_
   refine Ku (b := !acc.isEmpty) (fun y=>?_) (fun y=>?_)
   ·exact fin n07 hs0 gs ha (List.length_pos_iff.2 fun q=>by rw[q] at y;injection y) (by lia) rfl
   ·refine fun w hw=>?_
    exact fin (n07.new hw) (n07.nhas hw) kb (fun x m=>⟨0,List.mem_singleton.1 m⟩) (Nat.succ_pos _) (show 1≤4 by decide) rfl
noncomputable def lawI (dk cl md:Addr) (D:Dk) (σ4:Sto) (dn:List Nat) (σ':Sto):Prop:=∀ G:Prop,(∀ j con M,Go dk cl md D σ4 j σ'→LS σ' dk cl md (D.w j) con M (1+50*dn.length) dn.length→G)→G
theorem K1C (g:σ.get sc=some (.list (ns.map .int))) (l:ns.length≤63) (tab:σ.get Wt=some (.tab wa k4p)) (k:∀ σ',Fr (·=Wt) σ σ'→σ'.get Wt=some (.tab wa k4p)→Q (.bool true) σ'):K.C (n+11) k0y [.ref sc] σ Q X:=by
 refine kj K0p [some (.ref sc),none,none,none,none] rfl rfl ?_
 refine K0o g l fun dk cl σ1 n1 hdk hcl d1=>?_
 refine k1k fun D σ2 n2 ho hd h2=>?_
 refine fun md hmd=>?_
 have n3:New σ2 (σ2.upd md (.dict [])):=Fr.refl.new hmd
 have gm:(σ2.upd md (.dict [])).get md=some (.dict []):=kb
 have d2:Kt σ2 dk cl 0:=d1.fr n2 id id
 have d3:=d2.fr n3 id id
 have h3:=h2.n n3
 have n13:=n2.tr n3
 have n03:=n1.tr n13
 have hmd0:¬ σ2.has md:=hmd
 generalize σ2.upd md (.dict [])=σ3 at n3 gm d3 h3 n13 n03 ⊢
 have dkh:σ1.has dk:=by refine x31 d1 ?_;clear d1;intro z9 z9 z9 g z9;exact Sto.has_of g
 have clh:σ1.has cl:=by refine x32 d1 ?_;clear d1;intro z9 z9 z9 z9 g z9;exact Sto.has_of g
 have L3:LS σ3 dk cl md D (fun z9=>none) (fun z9=>none) 0 0 :=
  ⟨d3,⟨n03.g tab,fun o=>ho _ o (n1.pre_has (Sto.has_of tab))⟩,h3,⟨[],fun z9=>0,gm,KV.nil.of fun k=>by unfold k3p;split <;> rfl,fun z9 z9 e=>nomatch e⟩,⟨fun z9=>rfl,fun z9=>rfl⟩,fun z9=>rfl,
   fun o=>ho _ o dkh,fun o=>ho _ o clh,fun o=>hmd0 (h2.has o),fun q=>hmd0 (q▸n2.pre_has dkh),fun q=>hmd0 (q▸n2.pre_has clh),fun q=>hd (q▸dkh),fun q=>hd (q▸clh),fun q=>hmd0 (q▸Sto.has_of h2.obj.1)⟩
 refine JL (b:=4) L3.deck (by lia) (by decide) (by decide) fun r σ4 hr f4 d4=>?_
 have L4:=L3.draw f4 d4
 refine kN (x:=Kf 0 (2+(r:Nat)) 1) (if_pos (by lia)) ?_
 have ll:(Kf 0 (2+(r:Nat)) 1).length≤5:=by
  show (Kf 0 ((2+r:Nat):Int) 1).length≤5
  exact er Ul (Nat.add_le_add_left (Nat.le_of_lt_succ hr) 2)
 have fresh:∀ a,LW dk cl md D a→¬ σ.has a:=fun a q=>by
  rcases q with q | q | q | q
  ·exact q▸hdk
  ·exact q▸hcl
  ·exact fun z=>hmd0 (q▸n2.pre_has (n1.pre_has z))
  ·exact fun z=>ho a q (n1.pre_has z)
 refine wq (g:=none) (fun (_:List Nat) (o:Option V)=>[some (.ref sc),some (.ref dk),some (.ref D.d),some (.ref md),o]) (lawI dk cl md D σ4) (fun z9 z9 z9=>trivial) (fun dn x q e o σ' i KK k' z9=>i _ fun j con M go L=>?_) (fun o σ5 i=>i _ fun j con M go L=>?_) _ fun G w=>w D.inn _ _ (Go.new .refl) L4
 ·have lm:dn.length<5:=by
   have y:=congrArg List.length e
   rw[List.length_append] at y
   replace y:_=dn.length+(q.length+1):=y
   rw[Kf,List.length_map,y] at ll;lia
  refine ut (D:=D.w j) L (by lia) (by lia) fun j2 con2 M2 σ6 go6 L6=>?_
  exact k' _ _ _ rfl fun G w=>w j2 con2 M2 (go.trans go6) (L6.le (by refine er List.length_append ?_;show _≤1+50*(dn.length+1);lia) (by refine er List.length_append ?_;exact Nat.le_refl _))
 ·rw[Kf,List.length_map] at ll
  refine k87 (D:=D.w j) L (by lia) (by lia) fun σ7 f7=>k σ7 ?_ (f7.get (L.deck.no_tab L.tab.1) L.tab.1)
  have f0:Fr (fun a=>LW dk cl md D a∨a=Wt) σ σ7:=((Fr.nt n03 ((LW.of_draw f4).mono fun z9 e=>.inl (.inl e))).tr go.1).trans (W':=DW dk cl) f7 fun a e=>.inl (.inl (e.elim .inl fun e=>.inr (.inl e)))
  exact f0.mono fun a e=>e.elim (fun e=>.inr (fresh a e)) .inl
end
end
end
section
open PySem PySem.Calls PyProof.Rows PySem.W
section
variable {prog:Program} {w:World} {K:Frag} {h:Heap} {p a b n0:Addr} {c d e:yO} {o o1 o2:PySem.Obj} {s s':Shared} {σ σ':Sto} {vs:List Value} {ns:List Int} {os0:OsState} {b0:Heap}
theorem k3I {K:Frag} {k:Addr} (h:K.lookup k=some o):(k,o)∈K:=by
 induction K with
 | nil=>injection h
 | cons x r ih =>
  replace h:(match k==x.1 with | true=>some x.2 | false=>r.lookup k)=some o:=h
  cases e:k==x.1 with
  | true=>rw[e] at h;exact eq_of_beq e▸Option.some.inj h▸.head _
  | false=>rw[e] at h;exact .tail _ (ih h)
theorem k51 (x:IntsAre vs ns):VRs h (ns.map .int) vs:=by
 induction x with
 | nil=>exact .nil
 | cons n t x r=>exact .cons ⟨t,rfl⟩ r
theorem k80 (q:Sto.get [(p,c),(a,d)] b=some e) {G:Prop} (k1:p=b→c=e→G) (k2:a=b→d=e→G):G:=by
 by_cases x:p=b
 ·exact k1 x (Option.some.inj ((show Sto.get [(p,c),(a,d)] b=some c from if_pos x).symm.trans q))
 ·replace q:=(show Sto.get [(p,c),(a,d)] b=Sto.get [(a,d)] b from if_neg x).symm.trans q
  by_cases y:a=b
  ·exact k2 y (Option.some.inj ((show Sto.get [(a,d)] b=some d from if_pos y).symm.trans q))
  ·exact nomatch (show Sto.get [(a,d)] b=none from if_neg y).symm.trans q
theorem k9k (q:Sto.has [(p,c),(a,d)] b):b∈[p,a]:=bc fun z=>q ((if_neg fun (x:p=b)=>z (x▸.head _)).trans (if_neg fun (x:a=b)=>z (x▸.tail _ (.head _))))
theorem hid (hp:h.get? p=some o1) (ha:h.get? a=some o2) (e:h.get? b=some o) (n1:o=o1→False) (n2:o=o2→False):(hideAll h [p,a]).get? b=some o :=
 hideAll_get _ e fun m=>(List.mem_cons.1 m).elim (fun x=>n1 (Option.some.inj (e.symm.trans (x▸hp)))) fun m=>n2 (Option.some.inj (e.symm.trans (List.mem_singleton.1 m▸ha)))
theorem k9o {n:Nat} {es:Array DictEntry} (e:o.data=.dict es n) {ps:Array Value}:o=k3n ps→False:=fun q=>by injection e.symm.trans (congrArg PySem.Obj.data q)
theorem k8U {n:Nat} {es:Array DictEntry} (e:o.data=.dict es n):o=KH vs n0→False:=fun q=>by injection e.symm.trans (congrArg PySem.Obj.data q)
theorem k8u {p0:Program} {loose:List PySem.Str} {mg mb:PySem.Str→Option Value} {bm:Addr} {ob:PySem.Obj} (KX:K.In h) (noT:K.lookup p=none) (noL:∀ k o,K.lookup k=some o→o.cls≠.type "list")
  (hp:h.get? p=some (k3n #[])) (ha:h.get? a=some (KH vs n0)) (T:TopRead p0 loose mg mb h) (M:BMod h mainGlobals mg bm ob) (hm:∃ mm,h.Ns sysModules mm):Ws K (hideAll h [p,a]):=by
 have nsA:∀ {b m},h.Ns b m→(hideAll h [p,a]).Ns b m:=fun n=>x32 n fun o es ep ho hd r=>⟨o,es,ep,hid hp ha ho (k9o hd) (k8U hd),hd,r⟩
 refine ⟨fun c o e=>hideAll_get _ (KX c o e) fun m=>(List.mem_cons.1 m).elim (fun x=>?_) fun m=>noL c o e (congrArg PySem.Obj.cls (Option.some.inj ((KX c o e).symm.trans (List.mem_singleton.1 m▸ha)))),⟨p0,loose,mg,mb,⟨nsA T.g,nsA T.b,T.nolimit.elim fun mc x=>⟨mc,nsA x.1,x.2⟩,T.builtins,T.free⟩,bm,ob,M.name,M.ne,hid hp ha M.obj (fun q=>?_) (fun q=>?_),M.cls,M.dict,M.data⟩,hm.elim fun mm x=>x31 (nsA x) fun o z9 z9 y z9=>⟨o,y⟩⟩
 ·injection (x▸noT:K.lookup c=none).symm.trans e
 ·injection M.cls.symm.trans (congrArg PySem.Obj.cls q)
 ·exact absurd (M.cls.symm.trans (congrArg PySem.Obj.cls q)) (show ¬ Value.type "module" = Value.type "list" by decide)
theorem k94 (hp:s.heap.get? p=some (k3n #[])) (ha:s.heap.get? a=some (KH vs n0)) (hI:IntsAre vs ns) (hg:s.gens=#[]):Inv prog w (hideAll s.heap [p,a]) s.os [] [(p,.tab wa k4p),(a,.list (ns.map .int))] s :=
 ⟨fun b c e=>k80 e (fun x y=>x▸y▸⟨#[],hp,trivial,.inl rfl⟩) fun x y=>x▸y▸⟨vs,n0,ha,k51 hI⟩,fun b o e=>of_hideAll _ e,fun b e=>hideAll_none _ (k9k e),trivial,(fun b _ m=>nomatch m),(fun b m=>nomatch m),hg,rfl⟩
noncomputable def ckG (K:Frag) (x:Addr×IFn×List PySem.Str):Bool:=x.1 != qU&&has (K.lookup x.1) fun o=>has (k53 o.data) fun fd=>has (zc K x.1 x.2.1 (K2l K fd x.1 x.2.2)) fun b=>k4T 100 (K2l K fd x.1 x.2.2) x.2.1.body b
theorem k70 (ok_tab:k78.all (ckG K)=true) (ok_new:k4m.all (K0q K)=true) (ok_lam:yb K ki (ke [110,101,119])=true):Tab K Yd kU :=
 ⟨fun f fn h ne=>x11 (Option.map_eq_some_iff.1 ((if_neg ne).symm.trans h)) fun x hx ex=>by
  have e:x.1=f:=eq_of_beq (List.find?_some (p:=fun y:Addr×IFn×List PySem.Str=>y.1==f) hx)
  subst e ex
  exact b2 (List.all_eq_true.1 ok_tab x (List.mem_of_find?_eq_some hx)) fun z9 c=>x11 (kS c) fun o z9 c=>x11 (kS c) fun fd z9 c=>x11 (kS c) fun b hb c=>⟨_,b,rfl,hb,c⟩,
 ⟨ki,rfl,ok_lam⟩,fun C f h=>x11 (Option.map_eq_some_iff.1 h) fun x hx ex=>by
  have e:x.1=C:=eq_of_beq (List.find?_some (p:=fun y:Addr×Addr=>y.1==C) hx)
  subst e ex
  exact b4 (List.all_eq_true.1 ok_new x (List.mem_of_find?_eq_some hx)) fun c1 c2 c3 c4=>⟨bne_iff_ne.1 c1,c2,eq_of_beq c3,eq_of_beq c4⟩⟩
theorem k46 {P:Params} {v:Value} {x:WData} (W:Well P h v x):Nat.beq x.ctorIdx 4=true→v=.ref a→∃ vs,h.get? a=some (KH vs 0):=by
 cases W with
 | list h1 h2=>exact fun z9 e=>Value.ref.inj e▸⟨_,h1⟩
 | _=>exact fun z=>Bool.noConfusion z
theorem K0y {P:Params} {xs:List WData} (W:Well P h (.ref a) (.list xs)) (L:h.IsList a vs.toArray):h.get? a=some (KH vs 0) :=
 (k46 W rfl rfl).elim fun vs' g=>L.elim fun o x=>x.2.2.elim fun n y=>by
  injection (congrArg PySem.Obj.data (Option.some.inj (g.symm.trans x.1))).trans y with z
  have z:vs'=vs:=congrArg Array.toList z
  exact z▸g
theorem k9G {h':Heap} (KX:K.In h) (ct:codeHdIn K 682 680=true) (KT:h.get? 680=some (k3n #[])) (keep:∀ b o,h.get? b=some o→b≠680→h'.get? b=some o) (tab:∃ ps,h'.get? 680=some (k3n ps)):OldK h h':=by
 refine tab.elim fun ps hp=>⟨fun b o e=>?_,fun b o e=>?_⟩
 ·by_cases q:b=680
  ·subst q
   exact Option.some.inj (KT.symm.trans e)▸.inr (.inl ⟨((codeHd_of_K KX ct).tab KT).isCodeTable,rfl,#[],ps,rfl,hp.trans (congrArg (fun x=>some (k3n x)) (Array.empty_append (xs:=ps)).symm)⟩)
  ·exact .inl (keep b o e q)
 ·by_cases q:b=680
  ·exact ⟨_,q▸hp⟩
  ·exact ⟨o,keep b o e q⟩
noncomputable abbrev K1r (a:Addr) (ns:List Int):Sto:=[(Wt,.tab wa k4p),(a,.list (ns.map .int))]
theorem k9P {s1:Shared} {C:jH} (S:Ux prog w (hideAll s1.heap [Wt,a]) s1.os C 11) (I:Inv prog w (hideAll s1.heap [Wt,a]) s1.os [] (K1r a ns) s1)
  (zz:C k0y [.ref a] (K1r a ns) (fun r σ'=>r=.bool true∧Fr (·=Wt) (K1r a ns) σ'∧σ'.get Wt=some (.tab wa k4p)) fun z9 z9=>False)
  {Q:Result→Shared→Prop} (k:∀ s',(∀ b o,s1.heap.get? b=some o→b≠Wt→s'.heap.get? b=some o)→(∃ ps,s'.heap.get? Wt=some (k3n ps))→s'.os=s1.os→s'.gens=#[]→Q (.ok (.ret (.bool true))) s') :
  codeAny (model prog w) callerA (.call (.ref k0y) ⟨[.ref a],[]⟩) Q s1:=by
 refine codeAny_mono (S (v:=.ref k0y) (vs:=[.ref a]) (.inr ⟨by decide,rfl⟩) I ⟨rfl,rfl,by decide,by decide⟩ (VRs.cons (x:=.ref a) rfl .nil) zz) fun r s' z=>?_
 clear S I zz
 cases r with
 | error e=>exact x23 z fun z9 z9 z9 z9 z9 z=>z.elim
 | ok r =>
  cases r with
  | ret v =>
   refine x22 z fun x σ' ST rx z=>x02 z fun ex f gt=>x11 ST.pre fun pre e ext=>x11 f fun pre' e' fr=>?_
   have ev:v=.bool true:=(ex▸rx:VR s'.heap (.bool true) v)
   subst ev
   refine k s' (fun b o hb nb=>(ext b o hb fun m=>?_).1 fun m=>nomatch m) ((ST.inv.own _ _ gt).elim fun ps x=>⟨ps,x.1⟩) ST.inv.os ST.inv.gens
   refine (ST.dom.2 b (e▸Sto.has_pre m)).elim (fun q=>?_) fun q=>by injection hb.symm.trans q
   exact (List.mem_map.1 m).elim fun y my=>(fr y (List.append_cancel_right (e.symm.trans e')▸my.1)).elim (fun r=>nb (my.2.symm.trans r)) fun r=>r (my.2.symm▸q)
  | _=>exact z.elim
theorem k8N {s1:Shared} {p:Program} {loose:List PySem.Str} {mg mb:PySem.Str→Option Value} {bm:Addr} {ob:PySem.Obj}
  (KX:K.In s1.heap) (TbK:Tab K Yd kU) (noT:K.lookup Wt=none) (noL:∀ k o,K.lookup k=some o→o.cls≠.type "list")
  (KT:s1.heap.get? Wt=some (k3n #[])) (hL:s1.heap.get? a=some (KH vs n0)) (hI:IntsAre vs ns) (hlen:ns.length≤63)
  (T:TopRead p loose mg mb s1.heap) (M:BMod s1.heap mainGlobals mg bm ob) (hm:∃ mm,s1.heap.Ns sysModules mm) (hg:s1.gens=#[])
  {Q:Result→Shared→Prop} (k:∀ s',(∀ b o,s1.heap.get? b=some o→b≠Wt→s'.heap.get? b=some o)→(∃ ps,s'.heap.get? Wt=some (k3n ps))→s'.os=s1.os→s'.gens=#[]→Q (.ok (.ret (.bool true))) s') :
  codeAny (model prog w) callerA (.call (.ref k0y) ⟨[.ref a],[]⟩) Q s1:=by
 have B:=k8u KX noT noL KT hL T M hm
 have S:Ux prog w (hideAll s1.heap [Wt,a]) s1.os (k63.C 11) 11:=k9L B (B.T.elim fun _ h=>x31 h fun z9 z9 z9 h z9=>h.nolimit) TbK 11
 exact k9P S (k94 KT hL hI hg) (K1C (n:=0) (ns:=ns) (KO (fun e=>by injection congrArg PySem.Obj.cls (Option.some.inj (KT.symm.trans (e▸hL)))) kb) hlen kb fun σ' f g=>⟨rfl,f,g⟩) k
end
end
end Mine
namespace Mine.main
abbrev T:=True
theorem t:T:=⟨⟩
theorem tw13962693860625380366:T:=t
theorem tw2852251193174398662:T:=t
theorem tw4917070330192852093:T:=t
theorem tw15589955886551607785:T:=t
theorem tw11273777480241942364:T:=t
theorem tw8260724100714396741:T:=t
theorem tw11692516046256081784:T:=t
theorem tw12741544251441588921:T:=t
theorem tw16790050636404226231:T:=t
theorem tw5084117380071580128:T:=t
theorem tw11156056980113079860:T:=t
theorem tw5638201095994319732:T:=t
theorem tw14080665800827857628:T:=t
theorem tw14864641218109852296:T:=t
theorem tw5616070069386785504:T:=t
theorem tw14646587721710459877:T:=t
theorem tw8090509862211737132:T:=t
theorem tw7083192437325867461:T:=t
theorem tw16798622893749714585:T:=t
theorem tw11857135199678951331:T:=t
theorem tw1277820614484962519:T:=t
theorem tw15803610866087392283:T:=t
theorem tw15491723280356408159:T:=t
theorem tw15023316991559800185:T:=t
theorem tw12298629886278197574:T:=t
theorem tw10896356407431480244:T:=t
theorem tw6801380410627298636:T:=t
theorem tw18431692314602308842:T:=t
theorem tw16257599421473495544:T:=t
theorem tw9321267617633783869:T:=t
theorem tw10876375607700338302:T:=t
theorem tw2704602940660078815:T:=t
theorem tw12747388180105724736:T:=t
theorem tw11735423636902730196:T:=t
theorem tw5418533224930618480:T:=t
theorem tw17292155258170135553:T:=t
theorem tw4544244032028310869:T:=t
theorem tw1390771862084280389:T:=t
theorem tw8905464785575363620:T:=t
theorem tw5585478044538960755:T:=t
theorem tw1372806426800153423:T:=t
theorem tw5181119749688162637:T:=t
theorem tw15365013842991253249:T:=t
theorem tw4573282807186111410:T:=t
theorem tw9498315638749924794:T:=t
theorem tw471287901995484742:T:=t
theorem tw13974046611088194958:T:=t
theorem tw12872379398031375081:T:=t
theorem tw15616401959046598769:T:=t
theorem tw8930851030842425676:T:=t
theorem tw16452447596832230105:T:=t
theorem tw16026485685270457870:T:=t
theorem tw5665406974723832613:T:=t
theorem tw1306636233014830658:T:=t
theorem tw16008457594558532635:T:=t
theorem tw7624122152786673341:T:=t
theorem tw9274054859765456524:T:=t
theorem tw3958507339218470045:T:=t
theorem tw14216407083858561409:T:=t
theorem tw4650958065196391918:T:=t
theorem tw18092606169130929673:T:=t
theorem tw31828345220925962:T:=t
theorem tw10992214633131536827:T:=t
theorem tw18287795668848337631:T:=t
theorem tw365850788961202214:T:=t
theorem tw5240779543111244032:T:=t
theorem tw14457758005677747962:T:=t
theorem tw6516198228755648517:T:=t
theorem tw15565075772751903193:T:=t
theorem tw15734200111481486640:T:=t
theorem tw16035907590883218939:T:=t
theorem tw1099256609624015869:T:=t
theorem tw3549514262204291990:T:=t
theorem tw4908570168794737769:T:=t
theorem tw14489535830319231195:T:=t
theorem tw7113585516715319716:T:=t
theorem tw8546124895413445307:T:=t
theorem tw17708487481403421675:T:=t
theorem tw6361450105264607166:T:=t
theorem tw1289389943133740499:T:=t
theorem tw1429040668314091153:T:=t
theorem tw3864431920445960829:T:=t
theorem tw17146568849442343683:T:=t
theorem tw15624239662980076321:T:=t
theorem tw5004366561265856203:T:=t
theorem tw3911810758690780188:T:=t
theorem tw917386388269078853:T:=t
theorem tw8905992674379837232:T:=t
theorem tw12093647306153771053:T:=t
theorem tw7299474751278700455:T:=t
theorem tw14722489848711283861:T:=t
theorem tw9394770849952503311:T:=t
theorem tw13180746182150919023:T:=t
theorem tw5532463470591059822:T:=t
theorem tw495442525896006271:T:=t
theorem tw6697339332421208802:T:=t
theorem tw17147588175821073265:T:=t
theorem tw10450603732522932521:T:=t
theorem tw7631208497609216845:T:=t
theorem tw9994787619460420439:T:=t
theorem tw12987577155417789579:T:=t
theorem tw9483120023164983764:T:=t
theorem tw1826329307503635854:T:=t
theorem tw1678875084529416142:T:=t
theorem tw1545906260438175962:T:=t
theorem tw9880953963774564861:T:=t
theorem tw15737690656516749961:T:=t
theorem tw12623159325031504133:T:=t
theorem tw4630824681090250767:T:=t
theorem tw10140136200207757160:T:=t
theorem tw14106445559736802775:T:=t
theorem tw17958375852430007124:T:=t
theorem tw8844999433837080629:T:=t
theorem tw11135027115929721415:T:=t
theorem tw2629084897520917108:T:=t
theorem tw15970538086172389420:T:=t
theorem tw6741292078354696603:T:=t
theorem tw4413345314126155841:T:=t
theorem tw3748114642381145586:T:=t
theorem tw5127751686995613262:T:=t
theorem tw6557543464795787104:T:=t
theorem tw17563168436475441343:T:=t
theorem tw12959741745000181155:T:=t
theorem tw14238892425647747892:T:=t
theorem tw13803360072150633466:T:=t
theorem tw765107192605250810:T:=t
theorem tw16721930046160240684:T:=t
theorem tw12273490649430754879:T:=t
theorem tw4651154628705390771:T:=t
theorem tw10877679251791092727:T:=t
theorem tw6449824600675878752:T:=t
theorem tw1519992759497675636:T:=t
theorem tw7647378279178456250:T:=t
theorem tw18185559012729396856:T:=t
theorem tw1253437644075932092:T:=t
theorem tw6898400011967081535:T:=t
theorem tw10094358506670053839:T:=t
theorem tw14492832472218066102:T:=t
theorem tw11752208632293872130:T:=t
theorem tw3848698983108048278:T:=t
theorem tw9155575984036265788:T:=t
theorem tw6044114016751833949:T:=t
theorem tw4216741518440994707:T:=t
theorem tw16356685582667847594:T:=t
theorem tw14666387041718499266:T:=t
theorem tw918671981122897330:T:=t
theorem tw5671064798259553346:T:=t
theorem tw2402762420636078793:T:=t
theorem tw6334894449686545209:T:=t
theorem tw1178595665728414349:T:=t
theorem tw4324958949535026087:T:=t
theorem tw6161133996638707016:T:=t
theorem tw5623159541915647742:T:=t
theorem tw13995172100960836882:T:=t
theorem tw8281396171620568247:T:=t
theorem tw14368271195830560734:T:=t
theorem tw5289026146741335887:T:=t
theorem tw13110970153573199417:T:=t
theorem tw9942282790977331292:T:=t
theorem tw13313126695403321540:T:=t
theorem tw11716418206903941319:T:=t
theorem tw15558288988949320067:T:=t
theorem tw13838900630717943254:T:=t
theorem tw1084220662915027778:T:=t
theorem tw2337230598321646361:T:=t
theorem tw1469836325065767749:T:=t
theorem tw15350898050860989542:T:=t
theorem tw5790326737455844299:T:=t
theorem tw5921134243170700561:T:=t
theorem tw13157206579259725088:T:=t
theorem tw10652611922669240339:T:=t
theorem tw13132915859168520264:T:=t
theorem tw161903638078081290:T:=t
theorem tw16187894506366716058:T:=t
theorem tw16544489699163171333:T:=t
theorem tw6910295442248876197:T:=t
theorem tw17236958762192778904:T:=t
theorem tw1615956725737779560:T:=t
theorem tw9561784451562097942:T:=t
theorem tw6768520987592691376:T:=t
theorem tw4775608329324902142:T:=t
theorem tw12361340156312767134:T:=t
theorem tw7308723440029596264:T:=t
theorem tw5517759331935216279:T:=t
theorem tw9925469786538053656:T:=t
theorem tw14771111431291430275:T:=t
theorem tw5518243967957118194:T:=t
theorem tw13355152605343272895:T:=t
theorem tw16572128252103988241:T:=t
theorem tw4813529164357682033:T:=t
theorem tw13148611719377898607:T:=t
theorem tw4812270449578504274:T:=t
theorem tw10047389527955405517:T:=t
theorem tw13547569757486424058:T:=t
theorem tw13077236301305049449:T:=t
theorem tw1496695287857109588:T:=t
theorem tw9848185148710128376:T:=t
theorem tw12646911602827044314:T:=t
theorem tw7332552209862256014:T:=t
theorem tw18403998269306519403:T:=t
theorem tw2714283472998740243:T:=t
theorem tw15608450976537380609:T:=t
theorem tw10642606787283503386:T:=t
theorem tw16819838333489098493:T:=t
theorem tw13611887881385673225:T:=t
theorem tw16656740534632174751:T:=t
theorem tw11967333016625521393:T:=t
theorem tw11774690029378154688:T:=t
theorem tw10813080517026676716:T:=t
theorem tw6164561884633627433:T:=t
theorem tw12431561837914552411:T:=t
theorem tw1319676515408343850:T:=t
theorem tw221909299271738847:T:=t
theorem tw9361300454564663673:T:=t
theorem tw12608185968620612914:T:=t
theorem tw18072910330486901160:T:=t
theorem tw7237411587787531456:T:=t
theorem tw12564604832814323664:T:=t
theorem tw17438294365789470252:T:=t
theorem tw452746233719593009:T:=t
theorem tw4585930131862741453:T:=t
theorem tw16292202817602668162:T:=t
theorem tw3298483428156984901:T:=t
theorem tw6385024630547198690:T:=t
theorem tw16965079339398995527:T:=t
theorem tw9303439499767911484:T:=t
theorem tw14798791472264738832:T:=t
theorem tw13465503431842376007:T:=t
theorem tw10609540516017602915:T:=t
theorem tw6886502059237256666:T:=t
theorem tw4924694640843408985:T:=t
theorem tw1027651156746619712:T:=t
theorem tw1454224541498743561:T:=t
theorem tw13693970394777133609:T:=t
theorem tw10564528347858357063:T:=t
theorem tw9189880136782149556:T:=t
theorem tw2729793432009153956:T:=t
theorem tw14235155234550121937:T:=t
theorem tw14313897822631088780:T:=t
theorem tw11614107205274993552:T:=t
theorem tw12252054271945606052:T:=t
theorem tw16451033083921036709:T:=t
theorem tw9121559901702372667:T:=t
theorem tw6389877041954997217:T:=t
theorem tw656089360051881306:T:=t
theorem tw8207831470162742035:T:=t
theorem tw15225127925928830808:T:=t
theorem tw17336282652733537790:T:=t
theorem tw1980160206288974728:T:=t
theorem tw453184122279072053:T:=t
theorem tw6855474311058116810:T:=t
theorem tw10199874654664476236:T:=t
theorem tw2456247091588846565:T:=t
theorem tw8466321980469482115:T:=t
theorem tw13260870731297125680:T:=t
theorem tw11049269918873537771:T:=t
theorem tw11802326597910711352:T:=t
theorem tw6112859857366181021:T:=t
theorem tw5401703158475992631:T:=t
theorem tw1777545030009416734:T:=t
theorem tw5104194264097766351:T:=t
theorem tw11646826074482590764:T:=t
theorem tw3491332818749588091:T:=t
theorem tw6605519222145581350:T:=t
theorem tw9728134450697209749:T:=t
theorem tw750237026923860459:T:=t
theorem tw17453503289922162039:T:=t
theorem tw12800608258095302798:T:=t
theorem tw9175052073728820173:T:=t
theorem tw13711040749595973802:T:=t
theorem tw1270039299266317192:T:=t
theorem tw8947760058931562597:T:=t
theorem tw14793117695081215449:T:=t
theorem tw12463224122652932544:T:=t
theorem tw12343854547171428336:T:=t
theorem tw18425317256667529438:T:=t
theorem tw9957550378297406723:T:=t
theorem tw10123989817122485451:T:=t
theorem tw16320215318167395912:T:=t
theorem tw1142173933681417890:T:=t
theorem tw341453280667917650:T:=t
theorem tw12139096438432415106:T:=t
theorem tw7010351842590255796:T:=t
theorem tw7943094425149488825:T:=t
theorem tw4766233809647381661:T:=t
theorem tw18190005008629794160:T:=t
theorem tw799486724532869496:T:=t
theorem tw10169072693733980587:T:=t
theorem tw6981815665589151136:T:=t
theorem tw11251407683458634364:T:=t
theorem tw10231336680788121439:T:=t
theorem tw3613476055612923068:T:=t
theorem tw14060465935940456498:T:=t
theorem tw16480584520131690045:T:=t
theorem tw9897820754763898449:T:=t
theorem tw13597483153833180358:T:=t
theorem tw17096532924672817327:T:=t
theorem tw13224007501803129859:T:=t
theorem tw9515011664573035354:T:=t
theorem tw15579395750891953841:T:=t
theorem tw15389016597739433670:T:=t
theorem tw11349898740250378076:T:=t
theorem tw8567518541235275850:T:=t
theorem tw6663778134991626487:T:=t
theorem tw17579469583304193303:T:=t
theorem tw15438212644395081984:T:=t
theorem tw11125538497796368324:T:=t
theorem tw17456035664235451855:T:=t
theorem tw7623511443260959870:T:=t
theorem tw17016820405989369747:T:=t
theorem tw221546546901971840:T:=t
theorem tw4491334807805099456:T:=t
theorem tw12450111651097656602:T:=t
theorem tw11218778669853930896:T:=t
theorem tw7165207203227711834:T:=t
theorem tw9392487213469676918:T:=t
theorem tw7699798408344515789:T:=t
theorem tw12751799325998411230:T:=t
theorem tw7972779244933481256:T:=t
theorem tw16826212616301561204:T:=t
theorem tw12992176717851604617:T:=t
theorem tw17906638245316424091:T:=t
theorem tw10876229203375891673:T:=t
theorem tw5436791530062809996:T:=t
theorem tw3454311308915712629:T:=t
theorem tw12885673836220544336:T:=t
theorem tw9268297945177815525:T:=t
theorem tw18165044119631177899:T:=t
theorem tw5473700226181020891:T:=t
theorem tw18031918436515192882:T:=t
theorem tw16922381011570985944:T:=t
theorem tw7884331609784382070:T:=t
theorem tw13980345723018547825:T:=t
theorem tw11388154006635350966:T:=t
theorem tw12909650291622432550:T:=t
theorem tw2583023086579268501:T:=t
theorem tw5871769198996169552:T:=t
theorem tw15955573374722617477:T:=t
theorem tw9265829497004654079:T:=t
theorem tw12941917028564957548:T:=t
theorem tw11476092923266045095:T:=t
theorem tw15387884906608193903:T:=t
theorem tw1098248734344127483:T:=t
theorem tw7186131708394509389:T:=t
theorem tw6075091234017535682:T:=t
theorem tw7054876372555587774:T:=t
theorem tw3136416535801588117:T:=t
theorem tw7268301785047649679:T:=t
theorem tw3934531018447913466:T:=t
theorem tw545269030811804461:T:=t
theorem tw2110754180369666209:T:=t
theorem tw8265370782698574782:T:=t
theorem tw12681957500809781501:T:=t
theorem tw8102450764968551371:T:=t
theorem tw17561526911342447988:T:=t
theorem tw14562738103837258888:T:=t
theorem tw16629339528299215175:T:=t
theorem tw3557749057250611081:T:=t
theorem tw979501456738626862:T:=t
theorem tw17431719831054627609:T:=t
theorem tw17715262827843222689:T:=t
theorem tw6584820252761975732:T:=t
theorem tw1645717771770832407:T:=t
theorem tw834873547066669988:T:=t
theorem tw14439473939278146460:T:=t
theorem tw3867218068155391060:T:=t
theorem tw11712081513822626495:T:=t
theorem tw2750411421705246143:T:=t
theorem tw1628013610222277130:T:=t
theorem tw6222487380544312443:T:=t
theorem tw5837888446457221635:T:=t
theorem tw3796207824708393856:T:=t
theorem tw17864028415675338326:T:=t
theorem tw11221353774195762014:T:=t
theorem tw9512817274939609580:T:=t
theorem tw1444470235128671497:T:=t
theorem tw12922898485456448571:T:=t
theorem tw11463369355524808266:T:=t
theorem tw12519306246395310219:T:=t
theorem tw9670510015898674028:T:=t
theorem tw3137596982192898869:T:=t
theorem tw1130211791997205004:T:=t
theorem tw16778611742570070204:T:=t
theorem tw17450470499104002142:T:=t
theorem tw6912675738884088206:T:=t
theorem tw451873465583785326:T:=t
theorem tw18332899500509843999:T:=t
theorem tw1409966394225722968:T:=t
theorem tw5243159528196176124:T:=t
theorem tw6140287776057189764:T:=t
theorem tw15356762974548107741:T:=t
theorem tw13503263706703578961:T:=t
theorem tw12483276189755474720:T:=t
theorem tw1587290215689348708:T:=t
theorem tw833945537157984683:T:=t
theorem tw18344032359734412310:T:=t
theorem tw4297412468100583042:T:=t
theorem tw5309058905264134205:T:=t
theorem tw3829396358689915599:T:=t
theorem tw18120430973489738927:T:=t
theorem tw13876859957761632879:T:=t
theorem tw6877560268529008848:T:=t
theorem tw8627561154394265716:T:=t
theorem tw9557352009045844224:T:=t
theorem tw3583811862363856187:T:=t
theorem tw14064073609400967072:T:=t
theorem tw12518504611687188807:T:=t
theorem tw12431731261707249289:T:=t
theorem tw8478376212529829071:T:=t
theorem tw16135426469972691074:T:=t
theorem tw11544348965984651327:T:=t
theorem tw7590696779544312186:T:=t
theorem tw15059693217772790739:T:=t
theorem tw5677329702179833609:T:=t
theorem tw16806246253224384389:T:=t
theorem tw10363585996791799541:T:=t
theorem tw11501822485730972192:T:=t
theorem tw1216228984421328439:T:=t
theorem tw13972245371655741198:T:=t
theorem tw11311155076762098589:T:=t
theorem tw9406782406253462049:T:=t
theorem tw9681375758050803366:T:=t
theorem tw3466206800631347469:T:=t
theorem tw18238007617527299592:T:=t
theorem tw11120327062377616369:T:=t
theorem tw18302796317244248524:T:=t
theorem tw12543713266681445118:T:=t
theorem tw3706830351922483016:T:=t
theorem tw3220561703981169602:T:=t
theorem tw13306352142949925410:T:=t
theorem tw13350764725976880583:T:=t
theorem tw18178676814319149831:T:=t
theorem tw9417822746687237092:T:=t
theorem tw12885385263037960081:T:=t
theorem tw16102231251864390963:T:=t
theorem tw4139100593308808776:T:=t
theorem tw4500915450034043215:T:=t
theorem tw13110577991587790113:T:=t
theorem tw10953687544409504101:T:=t
theorem tw4075928730494220171:T:=t
theorem tw1156462466702112376:T:=t
theorem tw3562595001068472590:T:=t
theorem tw6635558491612396129:T:=t
theorem tw5396188567872606041:T:=t
theorem tw3027586509356016917:T:=t
theorem tw14168887731352723522:T:=t
theorem tw16022572192331126682:T:=t
theorem tw13402765919934010277:T:=t
theorem tw4310270188432123100:T:=t
theorem tw10234815189450012239:T:=t
theorem tw17477492558424962760:T:=t
theorem tw17128291446047057950:T:=t
theorem tw12653679108036650311:T:=t
theorem tw15270170921892066516:T:=t
theorem tw6519269512792494810:T:=t
theorem tw9368617206455126095:T:=t
theorem tw2702614204127132176:T:=t
theorem tw3905226178654972811:T:=t
theorem tw14907226015203709474:T:=t
theorem tw6868236387235032019:T:=t
theorem tw330327031418712150:T:=t
theorem tw1886080085820668685:T:=t
theorem tw13989496423458381343:T:=t
theorem tw104360540948158410:T:=t
theorem tw17403364634526059139:T:=t
theorem tw7293298908176781663:T:=t
theorem tw1198661942849946583:T:=t
theorem tw11554813239044494598:T:=t
theorem tw12130321265151566525:T:=t
theorem tw15734660467963936456:T:=t
theorem tw5102693214775723256:T:=t
theorem tw7297187181890747607:T:=t
theorem tw6674893403203295414:T:=t
theorem tw16689149305811164139:T:=t
theorem tw4749052000479324790:T:=t
theorem tw12590340796369385619:T:=t
theorem tw6702130215012162313:T:=t
theorem tw12338497608069007261:T:=t
theorem tw8046773169563483271:T:=t
theorem tw11982392923317675503:T:=t
theorem tw3370842686811476594:T:=t
theorem tw6565609875121592624:T:=t
theorem tw13154001654789283132:T:=t
theorem tw7875838824674609581:T:=t
theorem tw854977524454699277:T:=t
theorem tw16923884221124529275:T:=t
theorem tw8652556701797213591:T:=t
theorem tw17223442867436993403:T:=t
theorem tw9703084557020090508:T:=t
theorem tw10625986939718819309:T:=t
theorem tw15303317825217679618:T:=t
theorem tw6655696309031964122:T:=t
theorem tw7623509227018997848:T:=t
theorem tw12839114828313443825:T:=t
theorem tw10149618387772673413:T:=t
theorem tw16519101796099990279:T:=t
theorem tw9656510801202774680:T:=t
theorem tw13676971244355772609:T:=t
theorem tw18325589031809861271:T:=t
theorem tw1242282695825638017:T:=t
theorem tw7751025194823839400:T:=t
theorem tw16950194794029067938:T:=t
theorem tw11409991511011244131:T:=t
theorem tw2544328076492683441:T:=t
theorem tw9756827057097773860:T:=t
theorem tw4963571667203607135:T:=t
theorem tw2019394398466159022:T:=t
theorem tw52199770228462824:T:=t
theorem tw73751810991705359:T:=t
theorem tw17871620999419790863:T:=t
theorem tw716429049611869786:T:=t
theorem tw1054321117371714560:T:=t
theorem tw5287059835090251167:T:=t
theorem tw9976160756891316704:T:=t
theorem tw48596604365144762:T:=t
theorem tw1439166485080882:T:=t
theorem tw4330594992337426955:T:=t
theorem tw4044139247061151142:T:=t
theorem tw961187720498965250:T:=t
theorem tw6907636171062424033:T:=t
theorem tw8879939841973710529:T:=t
theorem tw16551855485269240956:T:=t
theorem tw14640416626631428029:T:=t
theorem tw7019240024125815769:T:=t
theorem tw10418042200766032776:T:=t
theorem tw223528310411579522:T:=t
theorem tw17353955331779342651:T:=t
theorem tw16218864148678617972:T:=t
theorem tw12974819211118642341:T:=t
theorem tw14504180641510445567:T:=t
theorem tw11987853993630220354:T:=t
theorem tw15595112118272840620:T:=t
theorem tw9360745474812902239:T:=t
theorem tw9964214247947446159:T:=t
theorem tw10707853282979444102:T:=t
theorem tw2895952525429962455:T:=t
theorem tw7093617532817203218:T:=t
theorem tw12670839924663504800:T:=t
theorem tw2759098988195820126:T:=t
theorem tw14759895335926876869:T:=t
theorem tw16676564476587882173:T:=t
theorem tw4039676971129161736:T:=t
theorem tw11710404883906591787:T:=t
theorem tw15514936471743626214:T:=t
theorem tw33456957511925785:T:=t
theorem tw4261964983698606537:T:=t
theorem tw2566753976717531306:T:=t
theorem tw3222223853247747169:T:=t
theorem tw1236483940969888574:T:=t
theorem tw14909365282108701170:T:=t
theorem tw4839478117068044826:T:=t
theorem tw7439787175107056256:T:=t
theorem tw17052023290607921161:T:=t
theorem tw9730157408454304684:T:=t
theorem tw17413556829735388813:T:=t
theorem tw13713940216889387898:T:=t
theorem tw4946776927847147119:T:=t
theorem tw8984930932524396370:T:=t
theorem tw65644731488775911:T:=t
theorem tw17243763036201825179:T:=t
theorem tw11003572833241299968:T:=t
theorem tw12027323910402764344:T:=t
theorem tw16305672181175384284:T:=t
theorem tw12927740378394474205:T:=t
theorem tw11785714552879321826:T:=t
theorem tw18063282731904131703:T:=t
theorem tw12702744160499308131:T:=t
theorem tw17275675667316583603:T:=t
theorem tw16251939892948500945:T:=t
theorem tw358491910552652209:T:=t
theorem tw16008252555379753968:T:=t
theorem tw7742616358663508648:T:=t
theorem tw15136431859952498927:T:=t
theorem tw13724616953566380437:T:=t
theorem tw588950844065142505:T:=t
theorem tw3448636985568280364:T:=t
theorem tw10665089971535097683:T:=t
theorem tw4900431672193113347:T:=t
theorem tw5502569546826302122:T:=t
theorem tw11403970630465759474:T:=t
theorem tw6757682118671568561:T:=t
theorem tw3532412968194664532:T:=t
theorem tw13591255225166038476:T:=t
theorem tw8467378866343419333:T:=t
theorem tw9470667924834194258:T:=t
theorem tw15079240505294077160:T:=t
theorem tw4189750870438640210:T:=t
theorem tw13777938177461255882:T:=t
theorem tw17286089631180046979:T:=t
theorem tw16952715711813285254:T:=t
theorem tw5363903885879670357:T:=t
theorem tw16049902774474827687:T:=t
theorem tw18284262389922463811:T:=t
theorem tw9903775340124721222:T:=t
theorem tw1318968915056948652:T:=t
theorem tw17644181745481072423:T:=t
theorem tw18418235949754561950:T:=t
theorem tw14390754486103292620:T:=t
theorem tw7639352225515584698:T:=t
theorem tw8484041278411425421:T:=t
theorem tw1453356044741674121:T:=t
theorem tw17298425922696826006:T:=t
theorem tw3343439749351644125:T:=t
theorem tw6696893160125735727:T:=t
theorem tw2195194259037543316:T:=t
theorem tw1544285471794705028:T:=t
theorem tw17201416709059790184:T:=t
theorem tw10159738436595150677:T:=t
theorem tw12732289081945773324:T:=t
theorem tw12570134572688502250:T:=t
theorem tw16193401482309157537:T:=t
theorem tw2524017781993486291:T:=t
theorem tw12748397558918655664:T:=t
theorem tw13293747886898857621:T:=t
theorem tw10625486282989778954:T:=t
theorem tw6880717277089553138:T:=t
theorem tw13113777628852026922:T:=t
theorem tw13270728482189477470:T:=t
theorem tw5456330333991267789:T:=t
theorem tw12626715702454501173:T:=t
theorem tw9508770018378322450:T:=t
theorem tw10283388844273144081:T:=t
theorem tw15465920861327815835:T:=t
theorem tw12057704586751987240:T:=t
theorem tw10463206416058312583:T:=t
theorem tw15060185592220127646:T:=t
theorem tw5378808338967829844:T:=t
theorem tw15109750227778091905:T:=t
theorem tw4817600198373253283:T:=t
theorem tw7235775444256392728:T:=t
theorem tw1118068078248606362:T:=t
theorem tw11086099901593105684:T:=t
theorem tw17737603089517620647:T:=t
theorem tw7591743695986301205:T:=t
theorem tw10864377008497418100:T:=t
theorem tw9381277316556691805:T:=t
theorem tw9840939614602229412:T:=t
theorem tw387501639795913443:T:=t
theorem tw11410963132546700228:T:=t
theorem tw11181722664286889309:T:=t
theorem tw6788695710022549768:T:=t
theorem tw11403851563620829512:T:=t
theorem tw15017983477296125989:T:=t
theorem tw1504049600530537962:T:=t
theorem tw16959884160788844718:T:=t
theorem tw2341703837736514645:T:=t
theorem tw7846812961960373227:T:=t
theorem tw4838787530573997063:T:=t
theorem tw11487549891475536569:T:=t
theorem tw8557395850702784662:T:=t
theorem tw6541472054586571296:T:=t
theorem tw15410482203810522393:T:=t
theorem tw6632538468102435922:T:=t
theorem tw18385570937342765463:T:=t
theorem tw8127475511531132179:T:=t
theorem tw1850612553970854742:T:=t
theorem tw7472368607099979303:T:=t
theorem tw15580989882048331800:T:=t
theorem tw6214117541549086881:T:=t
theorem tw13227692790652741651:T:=t
theorem tw6639522245352263942:T:=t
theorem tw12255313618399501761:T:=t
theorem tw4038153913678941442:T:=t
theorem tw5160751907100791332:T:=t
theorem tw10821422270917381399:T:=t
theorem tw8989776476301544223:T:=t
theorem tw4244067443239231564:T:=t
theorem tw4427210125980776015:T:=t
theorem tw15015763463395708765:T:=t
theorem tw12077450504624328385:T:=t
theorem tw2433702464844828792:T:=t
theorem tw16320729459185622934:T:=t
theorem tw8809968196449919288:T:=t
theorem tw480701840831765632:T:=t
theorem tw4333880214566435006:T:=t
theorem tw8060562821785662972:T:=t
theorem tw15806524323241146399:T:=t
theorem tw16765925921980633802:T:=t
theorem tw8079908401900000222:T:=t
theorem tw14218914174604095658:T:=t
theorem tw7939164064552038406:T:=t
theorem tw5797031442667253490:T:=t
theorem tw8883465813499100731:T:=t
theorem tw16153842264607907944:T:=t
theorem tw6087835443962453003:T:=t
theorem tw14554314840745968623:T:=t
theorem tw1615045767204293396:T:=t
theorem tw16046730324260685337:T:=t
theorem tw3394367416137920725:T:=t
theorem tw2050738372367520563:T:=t
theorem tw7761410557224570781:T:=t
theorem tw15643365686152983790:T:=t
theorem tw10825838108423173272:T:=t
theorem tw1519927702969063271:T:=t
theorem tw16508919721030705984:T:=t
theorem tw7153082081811710619:T:=t
theorem tw2921958311620399285:T:=t
theorem tw10652863235454686790:T:=t
theorem tw2287757881348798766:T:=t
theorem tw12014785543569010823:T:=t
theorem tw2190695567426971638:T:=t
theorem tw16357356043003861740:T:=t
theorem tw18134284020713443437:T:=t
theorem tw7358942708152152329:T:=t
theorem tw18442785490491869365:T:=t
theorem tw9391614825396419720:T:=t
theorem tw9167063770883464606:T:=t
theorem tw372505627349444580:T:=t
theorem tw4475767826048309731:T:=t
theorem tw17290568124846718506:T:=t
theorem tw1261021989165538067:T:=t
theorem tw12205347405646519318:T:=t
theorem tw8834365191522931223:T:=t
theorem tw10391951854915411234:T:=t
theorem tw6183352029847204284:T:=t
theorem tw14788915703135433725:T:=t
theorem tw3627144658338631552:T:=t
theorem tw8707812797481193996:T:=t
theorem tw17402982504261768225:T:=t
theorem tw14639212616227390028:T:=t
theorem tw14009396871252706886:T:=t
theorem tw6162249291895867263:T:=t
theorem tw2821470743931037460:T:=t
theorem tw15768048840197415361:T:=t
theorem tw6053611964639427726:T:=t
theorem tw17091655785135471103:T:=t
theorem tw7514964652732493775:T:=t
theorem tw12692632004510240207:T:=t
theorem tw6545385358150927430:T:=t
theorem tw17495560712657236704:T:=t
theorem tw2225956059507018244:T:=t
theorem tw3299218664060906527:T:=t
theorem tw12304082900475741265:T:=t
theorem tw16411370214107742406:T:=t
theorem tw11374851513655246148:T:=t
theorem tw7974275031393228247:T:=t
theorem tw8663697691656813868:T:=t
theorem tw6511744376749373798:T:=t
theorem tw17725498274588495791:T:=t
theorem tw15467891735981029475:T:=t
theorem tw9253799994812790149:T:=t
theorem tw10210597933619972095:T:=t
theorem tw15957597259013190341:T:=t
theorem tw2906824675625879941:T:=t
theorem tw832900586485598795:T:=t
theorem tw12915833801598196605:T:=t
theorem tw5665735395497279834:T:=t
theorem tw17699438841360665129:T:=t
theorem tw6032723428446822806:T:=t
theorem tw17118054049896295152:T:=t
theorem tw7173623326730630234:T:=t
theorem tw15984706205718930553:T:=t
theorem tw13642826006792871662:T:=t
theorem tw2900998541784483753:T:=t
theorem tw4681395471914393968:T:=t
theorem tw4088224383575840552:T:=t
theorem tw12900284412222446716:T:=t
theorem tw9808303207383738048:T:=t
theorem tw6596593509180878263:T:=t
theorem tw10092017014551392330:T:=t
theorem tw9682133043923132273:T:=t
theorem tw14161005256144132680:T:=t
theorem tw4990475226369331113:T:=t
theorem tw4605139254293405059:T:=t
theorem tw470481871638761223:T:=t
theorem tw5781596087445459943:T:=t
theorem tw8496349624203035976:T:=t
theorem tw16817993663026736274:T:=t
theorem tw10663580350406149668:T:=t
theorem tw14662554035588321541:T:=t
theorem tw8228058824784995430:T:=t
theorem tw10044588960856096794:T:=t
theorem tw5649967823195072380:T:=t
theorem tw15485851114877660061:T:=t
theorem tw892681787802806017:T:=t
theorem tw8249873531624179374:T:=t
theorem tw1255815211270559930:T:=t
theorem tw1940935353026998370:T:=t
theorem tw14097447854668400296:T:=t
theorem tw5978758484761866263:T:=t
theorem tw2238316416991798583:T:=t
theorem tw15554039934745177238:T:=t
theorem tw13797323745857372409:T:=t
theorem tw5203219222101121401:T:=t
theorem tw4126091431370883743:T:=t
theorem tw17767330081159143506:T:=t
theorem tw4458048076830672230:T:=t
theorem tw7108953243070827183:T:=t
theorem tw5831584030425509755:T:=t
theorem tw5396361742852586263:T:=t
end Mine.main
set_option maxHeartbeats 0
set_option tactic.hygienic true
open PySem PySem.W PyProof.Rows PySem.Calls Mine
set_option Elab.async true in
theorem Mine.main : PySem.Challenge.rw_nt0291_01.Holds := by
 (w_on; o_law; k_head; (case hw => w_witness2))
 have ok_tab : ∀ P, k78.all (ckG (Mine.main.heap_1_39 P)) = true := fun P => by kernel_rfl
 have ok_new : ∀ P, k4m.all (K0q (Mine.main.heap_1_39 P)) = true := fun P => by kernel_rfl
 have ok_lam : ∀ P, yb (Mine.main.heap_1_39 P) ki (ke [110, 101, 119]) = true := fun P => by kernel_rfl
 have noT_ok : ∀ P, ((Mine.main.heap_1_39 P).lookup 680).isNone = true := fun P => by kernel_rfl
 have noL_ok : ∀ P, ((Mine.main.heap_1_39 P).all fun x => x.2.cls != .type "list") = true := fun P => by kernel_rfl
 have imp_ok : importsNone Mine.main.view_1_40 = true := by kernel_rfl
 have codeT_ok : ∀ P, codeHdIn (Mine.main.heap_1_39 P) 682 680 = true := fun P => by kernel_rfl
 have law_at : ∀ P, nsIn (Mine.main.heap_1_39 P) mainGlobals "law" = some (some (.ref k0y)) := fun P => by kernel_rfl
 k_fill
 intro w s₀ s₁ mg mb G Y fa o pm cd doc dV kV ho hd hcd hD hmg hg args vals as hpre hlay hrd hwl hlo
 have KX := km_in_of Y
 have KT := km_tabs_of Y
 have X := (Ground.X G).1
 have V := (Ground.X G).2
 refine Ground.open G ?_
 intro T B D TE TW
 obtain ⟨bm, ob, M⟩ := bmod_of_top T
 have efa := (mg_of KX T.g (law_at w.params)).symm.trans hmg
 clear hd hcd hmg
 cases efa
 wrow_args hpre hlay hrd hwl hlo
 all_goals (
  first | refine callC_kw (enter_call ?_) | refine enter_call ?_ | refine callC_kw (enter_callW ?_) | refine enter_callW ?_ | w_how)
 all_goals clear hD
 rename_i ns hs hl0 hL1 hr1 hl2 w4 w3 a vs w0 hL ra w1 r0 hI hr hc1 hc2
 refine k8N KX (k70 (ok_tab _) (ok_new _) (ok_lam _)) (Option.isNone_iff_eq_none.1 (noT_ok _)) (fun k o h => bne_iff_ne.1 (List.all_eq_true.1 (noL_ok w.params) _ (k3I h))) (KT 680 (.head _)) (K0y w1 hL) hI (Nat.le_of_not_lt fun h => hc1 (Int.ofNat_lt.2 h)) (topRead_of T) M ⟨_, (T.seer imp_ok).mods.choose_spec.1⟩ hg fun s' keep tab hos hgn => ⟨.inl ⟨.bool true, .bool true, [], rfl, fun _ => rfl, .bool true, ?_, fun _ => ⟨List.nodup_nil, fun _ m => nomatch m⟩⟩, k9G KX (codeT_ok _) (KT 680 (.head _)) keep tab, hos, .of_eq hgn⟩
 wrow_post
theorem PySem.Challenge.cw_nt0291_01_holds : PySem.Challenge.rw_nt0291_01.Holds :=
 Mine.main
